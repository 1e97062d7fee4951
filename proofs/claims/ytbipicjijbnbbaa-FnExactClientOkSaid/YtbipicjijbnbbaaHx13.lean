-- hp.py
import Derived.Test.YtbipicjijbnbbaaHx0
import Derived.Test.YtbipicjijbnbbaaHx8
import Derived.Test.YtbipicjijbnbbaaHx9
import Derived.Test.YtbipicjijbnbbaaHx10
import Derived.Test.YtbipicjijbnbbaaHx11
import Derived.Test.YtbipicjijbnbbaaHx12
import Derived.Test.YtbipicjijbnbbaaHx13h
namespace Go.Proofs.Ytbipicjijbnbbaa.Hp
open Go.RowKit Go.Proofs.YtbipicjijbnbbaaW.PrintWords Go.Proofs.YtbipicjijbnbbaaW.PrintLast Go.Proofs.YtbipicjijbnbbaaW.PrintMore
attribute [local go_sem] max2_int min2_int max_two min_two max_three min_three max_four min_four   -- for this text's walks alone
set_option linter.unusedVariables false
set_option linter.unusedSimpArgs false
theorem z13a {P : Prop} (h : P:=by simp only [Act.put,List.setIfInBounds_toArray,List.set_cons_zero,List.set_cons_succ,i64_w,i32_w];rfl) : P:=h
-- squeezed by wip/tools/squeeze.py
theorem z13x11 {P : Prop} (h : P:=by (with_reducible repeat (first|refine blk_drewN ?_ _|refine blk_drew ?_|refine blk_alloc ?_ _));exact qa.out) : P:=h
theorem z13x10 {P : Prop} (h : P:=by repeat (first|(with_reducible first|exact HB.out|apply below_alloc|apply pw_below_drewN|apply below_drew1)|exact HB.out)) : P:=h
theorem z13x9 {P : Prop} (h : P:=by (try simp only [List.map_toArray,List.map_cons,List.map_nil]);first|done|rfl|(simp only [List.length_drop,List.length_take];rfl)) : P:=h
theorem z13x8 {P : Prop} (h : P:=by repeat (first|(with_reducible first|exact HB.out|apply below_alloc|apply pw_below_drewN|apply below_drew1|refine below_set ?_ vm.out)|exact HB.out)) : P:=h
theorem z13x7 {P : Prop} (h : P:=by rw [hg];exact (below_size (by repeat (first|(with_reducible first|exact HB.out|apply below_alloc|apply pw_below_drewN|apply below_drew1|refine below_set ?_ vm.out)|exact HB.out)))) : P:=h
theorem z13x6 {P : Prop} (h : P:=by repeat (first|(with_reducible first|exact HB.out|apply below_alloc|apply pw_below_drewN|apply below_drew1|refine below_set ?_ vm.out|refine below_set ?_ js.out)|exact HB.out)) : P:=h
theorem z13x5 {P : Prop} (h : P:=by rw [hg];exact Nat.ne_of_lt (blk_lt (g:=qb) (o:=.cells #[.int .i64 qp,.int .i64 ql,.slice wd qf.length qv,.slice (some ue) qc.length qu,.slice qx qg.length qt,.slice qz qh.length qr] 28 (0,0)) (by (with_reducible repeat (first|refine blk_drewN ?_ _|refine blk_drew ?_|refine blk_alloc ?_ _));exact qa.out))) : P:=h
theorem z13x4 {P : Prop} (h : P:=by rw [hg];exact Nat.ne_of_lt (blk_lt (g:=qb) (o:=.cells #[.int .i64 qp,.int .i64 ql,.slice (some ub) qf.length qv,.slice wg qc.length qu,.slice qx qg.length qt,.slice qz qh.length qr] 28 (0,0)) (by (with_reducible repeat (first|refine blk_drewN ?_ _|refine blk_drew ?_|refine blk_alloc ?_ _));exact qa.out))) : P:=h
theorem z13x3 {P : Prop} (h : P:=by rw [hg];exact Nat.ne_of_gt (blk_lt (g:=qb) (o:=.cells #[.int .i64 qp,.int .i64 ql,.slice wd qf.length qv,.slice (some ue) qc.length qu,.slice qx qg.length qt,.slice qz qh.length qr] 28 (0,0)) (by (with_reducible repeat (first|refine blk_drewN ?_ _|refine blk_drew ?_|refine blk_alloc ?_ _));exact qa.out))) : P:=h
theorem z13x2 {P : Prop} (h : P:=by rw [hg];exact Nat.ne_of_gt (blk_lt (g:=qb) (o:=.cells #[.int .i64 qp,.int .i64 ql,.slice (some ub) qf.length qv,.slice wg qc.length qu,.slice qx qg.length qt,.slice qz qh.length qr] 28 (0,0)) (by (with_reducible repeat (first|refine blk_drewN ?_ _|refine blk_drew ?_|refine blk_alloc ?_ _));exact qa.out))) : P:=h
theorem z13x1 {P : Prop} (h : P:=by (with_reducible repeat (first|refine blk_drewN ?_ _|refine blk_drew ?_|refine blk_alloc ?_ _));refine blk_far ?_ qy.out _;(with_reducible repeat (first|refine blk_drewN ?_ _|refine blk_drew ?_|refine blk_alloc ?_ _));refine blk_far ?_ qy.out _;(with_reducible repeat (first|refine blk_drewN ?_ _|refine blk_drew ?_|refine blk_alloc ?_ _));refine blk_far ?_ qy.out _;(with_reducible repeat (first|refine blk_drewN ?_ _|refine blk_drew ?_|refine blk_alloc ?_ _));refine blk_far ?_ qy.out _;(with_reducible repeat (first|refine blk_drewN ?_ _|refine blk_drew ?_|refine blk_alloc ?_ _));refine blk_far ?_ qy.out _;(with_reducible repeat (first|refine blk_drewN ?_ _|refine blk_drew ?_|refine blk_alloc ?_ _));refine blk_far ?_ qy.out _;(with_reducible repeat (first|refine blk_drewN ?_ _|refine blk_drew ?_|refine blk_alloc ?_ _));refine blk_far ?_ qy.out _;(with_reducible repeat (first|refine blk_drewN ?_ _|refine blk_drew ?_|refine blk_alloc ?_ _));refine blk_far ?_ qy.out _;(with_reducible repeat (first|refine blk_drewN ?_ _|refine blk_drew ?_|refine blk_alloc ?_ _));refine blk_far ?_ qy.out _;(with_reducible repeat (first|refine blk_drewN ?_ _|refine blk_drew ?_|refine blk_alloc ?_ _));refine blk_far ?_ qy.out _;(with_reducible repeat (first|refine blk_drewN ?_ _|refine blk_drew ?_|refine blk_alloc ?_ _));exact qa.out) : P:=h
theorem z13x0 {P : Prop} (h : P:=by (with_reducible repeat (first|refine blk_drewN ?_ _|refine blk_drew ?_|refine blk_alloc ?_ _));refine blk_put (cs:=#[.int .i64 ((rd_T106 qc qe).f0),.int .i64 ((rd_T106 qc qe).f1),.int .i64 ((rd_T106 qc qe).f2),.int .i64 ((rd_T106 qc qe).f3.f0),.int .i64 ((rd_T106 qc qe).f3.f1),.int .i64 ((rd_T106 qc qe).f3.f2),.int .i64 ((rd_T106 qc qe).f3.f3),.int .i64 ((rd_T106 qc qe).f3.f4),.int .i64 ((rd_T106 qc qe).f3.f5),.int .i64 0]) ?_ 9 _ rfl;(with_reducible repeat (first|refine blk_drewN ?_ _|refine blk_drew ?_|refine blk_alloc ?_ _));refine blk_put (cs:=#[.int .i64 ((rd_T106 qc qe).f0),.int .i64 ((rd_T106 qc qe).f1),.int .i64 ((rd_T106 qc qe).f2),.int .i64 ((rd_T106 qc qe).f3.f0),.int .i64 ((rd_T106 qc qe).f3.f1),.int .i64 ((rd_T106 qc qe).f3.f2),.int .i64 ((rd_T106 qc qe).f3.f3),.int .i64 ((rd_T106 qc qe).f3.f4),.int .i64 0,.int .i64 0]) ?_ 8 _ rfl;(with_reducible repeat (first|refine blk_drewN ?_ _|refine blk_drew ?_|refine blk_alloc ?_ _));refine blk_put (cs:=#[.int .i64 ((rd_T106 qc qe).f0),.int .i64 ((rd_T106 qc qe).f1),.int .i64 ((rd_T106 qc qe).f2),.int .i64 ((rd_T106 qc qe).f3.f0),.int .i64 ((rd_T106 qc qe).f3.f1),.int .i64 ((rd_T106 qc qe).f3.f2),.int .i64 ((rd_T106 qc qe).f3.f3),.int .i64 0,.int .i64 0,.int .i64 0]) ?_ 7 _ rfl;(with_reducible repeat (first|refine blk_drewN ?_ _|refine blk_drew ?_|refine blk_alloc ?_ _));refine blk_put (cs:=#[.int .i64 ((rd_T106 qc qe).f0),.int .i64 ((rd_T106 qc qe).f1),.int .i64 ((rd_T106 qc qe).f2),.int .i64 ((rd_T106 qc qe).f3.f0),.int .i64 ((rd_T106 qc qe).f3.f1),.int .i64 ((rd_T106 qc qe).f3.f2),.int .i64 0,.int .i64 0,.int .i64 0,.int .i64 0]) ?_ 6 _ rfl;(with_reducible repeat (first|refine blk_drewN ?_ _|refine blk_drew ?_|refine blk_alloc ?_ _));refine blk_put (cs:=#[.int .i64 ((rd_T106 qc qe).f0),.int .i64 ((rd_T106 qc qe).f1),.int .i64 ((rd_T106 qc qe).f2),.int .i64 ((rd_T106 qc qe).f3.f0),.int .i64 ((rd_T106 qc qe).f3.f1),.int .i64 0,.int .i64 0,.int .i64 0,.int .i64 0,.int .i64 0]) ?_ 5 _ rfl;(with_reducible repeat (first|refine blk_drewN ?_ _|refine blk_drew ?_|refine blk_alloc ?_ _));refine blk_put (cs:=#[.int .i64 ((rd_T106 qc qe).f0),.int .i64 ((rd_T106 qc qe).f1),.int .i64 ((rd_T106 qc qe).f2),.int .i64 ((rd_T106 qc qe).f3.f0),.int .i64 0,.int .i64 0,.int .i64 0,.int .i64 0,.int .i64 0,.int .i64 0]) ?_ 4 _ rfl;(with_reducible repeat (first|refine blk_drewN ?_ _|refine blk_drew ?_|refine blk_alloc ?_ _));refine blk_put (cs:=#[.int .i64 ((rd_T106 qc qe).f0),.int .i64 ((rd_T106 qc qe).f1),.int .i64 ((rd_T106 qc qe).f2),.int .i64 0,.int .i64 0,.int .i64 0,.int .i64 0,.int .i64 0,.int .i64 0,.int .i64 0]) ?_ 3 _ rfl;(with_reducible repeat (first|refine blk_drewN ?_ _|refine blk_drew ?_|refine blk_alloc ?_ _));refine blk_put (cs:=#[.int .i64 ((rd_T106 qc qe).f0),.int .i64 ((rd_T106 qc qe).f1),.int .i64 0,.int .i64 0,.int .i64 0,.int .i64 0,.int .i64 0,.int .i64 0,.int .i64 0,.int .i64 0]) ?_ 2 _ rfl;(with_reducible repeat (first|refine blk_drewN ?_ _|refine blk_drew ?_|refine blk_alloc ?_ _));refine blk_put (cs:=#[.int .i64 ((rd_T106 qc qe).f0),.int .i64 0,.int .i64 0,.int .i64 0,.int .i64 0,.int .i64 0,.int .i64 0,.int .i64 0,.int .i64 0,.int .i64 0]) ?_ 1 _ rfl;(with_reducible repeat (first|refine blk_drewN ?_ _|refine blk_drew ?_|refine blk_alloc ?_ _));refine blk_put (cs:=#[.int .i64 0,.int .i64 0,.int .i64 0,.int .i64 0,.int .i64 0,.int .i64 0,.int .i64 0,.int .i64 0,.int .i64 0,.int .i64 0]) ?_ 0 _ rfl;(with_reducible repeat (first|refine blk_drewN ?_ _|refine blk_drew ?_|refine blk_alloc ?_ _));exact qd.out) : P:=h

def b0q : Array Bool := #[false,false,false,false,false,false,false,false,false,false,false,false,false,false,false,false,false,false,false,false,false,false,false,false,false,false,false,false]
def b1q : Array Bool := #[true,false,false,false,false,false,false,false,false,false,false,false,false,false,false,false,false,false,false,false,false,false,false,false,false,false,false,false]
def b2q : Array Bool := #[true,true,false,false,false,false,false,false,false,false,false,false,false,false,false,false,false,false,false,false,false,false,false,false,false,false,false,false]
def b3q : Array Bool := #[true,true,true,false,false,false,false,false,false,false,false,false,false,false,false,false,false,false,false,false,false,false,false,false,false,false,false,false]
def b4q : Array Bool := #[true,true,true,true,false,false,false,false,false,false,false,false,false,false,false,false,false,false,false,false,false,false,false,false,false,false,false,false]
def b5q : Array Bool := #[true,true,true,true,true,false,false,false,false,false,false,false,false,false,false,false,false,false,false,false,false,false,false,false,false,false,false,false]
def b6q : Array Bool := #[true,true,true,true,true,true,false,false,false,false,false,false,false,false,false,false,false,false,false,false,false,false,false,false,false,false,false,false]
def b7q : Array Bool := #[true,true,true,true,true,true,true,false,false,false,false,false,false,false,false,false,false,false,false,false,false,false,false,false,false,false,false,false]
def b8q : Array Bool := #[true,true,true,true,true,true,true,true,false,false,false,false,false,false,false,false,false,false,false,false,false,false,false,false,false,false,false,false]
def b9q : Array Bool := #[true,true,true,true,true,true,true,true,true,false,false,false,false,false,false,false,false,false,false,false,false,false,false,false,false,false,false,false]
def b10q : Array Bool := #[true,true,true,true,true,true,true,true,true,true,false,false,false,false,false,false,false,false,false,false,false,false,false,false,false,false,false,false]
def b11q : Array Bool := #[true,true,true,true,true,true,true,true,true,true,true,false,false,false,false,false,false,false,false,false,false,false,false,false,false,false,false,false]
def b12q : Array Bool := #[true,true,true,true,true,true,true,true,true,true,true,true,false,false,false,false,false,false,false,false,false,false,false,false,false,false,false,false]
def b13q : Array Bool := #[true,true,true,true,true,true,true,true,true,true,true,true,true,false,false,false,false,false,false,false,false,false,false,false,false,false,false,false]
def b14q : Array Bool := #[true,true,true,true,true,true,true,true,true,true,true,true,true,true,false,false,false,false,false,false,false,false,false,false,false,false,false,false]
def b15q : Array Bool := #[true,true,true,true,true,true,true,true,true,true,true,true,true,true,true,false,false,false,false,false,false,false,false,false,false,false,false,false]
def b16q : Array Bool := #[true,true,true,true,true,true,true,true,true,true,true,true,true,true,true,true,false,false,false,false,false,false,false,false,false,false,false,false]
def b17q : Array Bool := #[true,true,true,true,true,true,true,true,true,true,true,true,true,true,true,true,true,false,false,false,false,false,false,false,false,false,false,false]
def b18q : Array Bool := #[true,true,true,true,true,true,true,true,true,true,true,true,true,true,true,true,true,true,false,false,false,false,false,false,false,false,false,false]
def b19q : Array Bool := #[true,true,true,true,true,true,true,true,true,true,true,true,true,true,true,true,true,true,true,false,false,false,false,false,false,false,false,false]
def b20q : Array Bool := #[true,true,true,true,true,true,true,true,true,true,true,true,true,true,true,true,true,true,true,true,false,false,false,false,false,false,false,false]
def b21q : Array Bool := #[true,true,true,true,true,true,true,true,true,true,true,true,true,true,true,true,true,true,true,true,true,false,false,false,false,false,false,false]
def b22q : Array Bool := #[true,true,true,true,true,true,true,true,true,true,true,true,true,true,true,true,true,true,true,true,true,true,false,false,false,false,false,false]
def b23q : Array Bool := #[true,true,true,true,true,true,true,true,true,true,true,true,true,true,true,true,true,true,true,true,true,true,true,false,false,false,false,false]
def b24q : Array Bool := #[true,true,true,true,true,true,true,true,true,true,true,true,true,true,true,true,true,true,true,true,true,true,true,true,false,false,false,false]
def b25q : Array Bool := #[true,true,true,true,true,true,true,true,true,true,true,true,true,true,true,true,true,true,true,true,true,true,true,true,true,false,false,false]
def b26q : Array Bool := #[true,true,true,true,true,true,true,true,true,true,true,true,true,true,true,true,true,true,true,true,true,true,true,true,true,true,false,false]
def b27q : Array Bool := #[true,true,true,true,true,true,true,true,true,true,true,true,true,true,true,true,true,true,true,true,true,true,true,true,true,true,true,false]
def b28q : Array Bool := #[true,true,true,true,true,true,true,true,true,true,true,true,true,true,true,true,true,true,true,true,true,true,true,true,true,true,true,true]
def b29q : Array Bool := #[true,true,true,true,true,true,false,true,false,false,false,false,false,false,false,false,false,false,false,false,false,false,false,false,false,false,false,false]
def b30q : Array Bool := #[true,true,true,true,true,true,true,true,true,true,true,true,true,true,true,true,true,false,true,false,false,false,false,false,false,false,false,false]
def b31q : Array Bool := #[true,true,true,true,true,true,true,true,true,true,true,true,true,true,true,true,true,false,true,true,false,false,false,false,false,false,false,false]
def b32q : Array Bool := #[true,true,true,true,true,true,true,true,true,true,true,true,true,true,true,true,true,false,true,true,false,false,false,true,false,false,false,false]
def b33q : Array Bool := #[true,true,true,true,true,true,true,true,true,true,true,true,true,true,true,true,true,true,true,true,false,false,false,true,false,false,false,false]
def b34q : Array Bool := #[true,true,true,true,true,true,true,true,true,true,true,true,true,true,true,true,true,true,true,true,true,false,false,true,false,false,false,false]
def b35q : Array Bool := #[true,true,true,true,true,true,true,true,true,true,true,true,true,true,true,true,true,true,true,true,true,true,false,true,false,false,false,false]
def b36q : Array Bool := #[false,false,false,false,false,false,false,false,false,false,false,false,false,false,false,false,false,false,false,false,false]
def b37q : Array Bool := #[true,false,false,false,false,false,false,false,false,false,false,false,false,false,false,false,false,false,false,false,false]
def b38q : Array Bool := #[true,false,true,false,false,false,false,false,false,false,false,false,false,false,false,false,false,false,false,false,false]
def b39q : Array Bool := #[true,false,true,false,true,false,false,false,false,false,false,false,false,false,false,false,false,false,false,false,false]
def b40q : Array Bool := #[true,true,true,false,true,false,false,false,false,false,false,false,false,false,false,false,false,false,false,false,false]
def b41q : Array Bool := #[true,true,true,true,true,false,false,false,false,false,false,false,false,false,false,false,false,false,false,false,false]
def b42q : Array Bool := #[true,true,true,true,true,true,false,false,false,false,false,false,false,false,false,false,false,false,false,false,false]
def b43q : Array Bool := #[true,true,true,true,true,true,true,false,false,false,false,false,false,false,false,false,false,false,false,false,false]
def b44q : Array Bool := #[true,true,true,true,true,true,true,true,false,false,false,false,false,false,false,false,false,false,false,false,false]
def b45q : Array Bool := #[true,true,true,true,true,true,true,true,true,false,false,false,false,false,false,false,false,false,false,false,false]
def b46q : Array Bool := #[true,true,true,true,true,true,true,true,true,true,false,false,false,false,false,false,false,false,false,false,false]
def b47q : Array Bool := #[true,true,true,true,true,true,true,true,true,true,true,false,false,false,false,false,false,false,false,false,false]
def b48q : Array Bool := #[true,true,true,true,true,true,true,true,true,true,true,true,false,false,false,false,false,false,false,false,false]
def b49q : Array Bool := #[true,true,true,true,true,true,true,true,true,true,true,true,true,false,false,false,false,false,false,false,false]
def b50q : Array Bool := #[true,true,true,true,true,true,true,true,true,true,true,true,true,true,false,false,false,false,false,false,false]
def b51q : Array Bool := #[true,true,true,true,true,true,true,true,true,true,true,true,true,true,true,false,false,false,false,false,false]
def b52q : Array Bool := #[true,true,true,true,true,true,true,true,true,true,true,true,true,true,true,true,false,false,false,false,false]
def b53q : Array Bool := #[true,true,true,true,true,true,true,true,true,true,true,true,true,true,true,true,true,false,false,false,false]
def b54q : Array Bool := #[true,true,true,true,true,true,true,true,true,true,true,true,true,true,true,true,true,true,false,false,false]
def b55q : Array Bool := #[true,true,true,true,true,true,true,true,true,true,true,true,true,true,true,true,true,true,true,false,false]
def b56q : Array Bool := #[true,true,true,true,true,true,true,true,true,true,true,true,true,true,true,true,true,true,true,true,false]
def b57q : Array Bool := #[true,true,true,true,true,true,true,true,true,true,true,true,true,true,true,true,true,true,true,true,true]
def b58q : Array Bool := #[true,true,true,true,true,true,true,true,true,true,true,false,true,false,false,false,false,false,false,false,false]
def b59q : Array Bool := #[true,true,true,true,true,true,true,true,true,true,true,false,true,false,true,false,false,false,false,false,false]
def b60q : Array Bool := #[true,true,true,true,true,true,true,true,true,true,true,false,true,false,true,false,true,false,false,false,false]
def b61q : Array Bool := #[true,true,true,true,true,true,true,true,true,true,true,true,true,false,true,false,true,false,false,false,false]
def b62q : Array Bool := #[true,true,true,true,true,true,true,true,true,true,true,true,true,true,true,false,true,false,false,false,false]
def b63q : Array Bool := #[false,false,false,false,false,false,false,false,false,false,false,false,false,false,false,false,false,false,false,false,false,false,false,false,false,false,false,false,false]
def b64q : Array Bool := #[true,false,false,false,false,false,false,false,false,false,false,false,false,false,false,false,false,false,false,false,false,false,false,false,false,false,false,false,false]
def b65q : Array Bool := #[true,false,true,false,false,false,false,false,false,false,false,false,false,false,false,false,false,false,false,false,false,false,false,false,false,false,false,false,false]
def b66q : Array Bool := #[true,false,true,false,false,true,false,false,false,false,false,false,false,false,false,false,false,false,false,false,false,false,false,false,false,false,false,false,false]
def b67q : Array Bool := #[true,true,true,false,false,true,false,false,false,false,false,false,false,false,false,false,false,false,false,false,false,false,false,false,false,false,false,false,false]
def b68q : Array Bool := #[true,true,true,true,false,true,false,false,false,false,false,false,false,false,false,false,false,false,false,false,false,false,false,false,false,false,false,false,false]
def b69q : Array Bool := #[true,true,true,true,true,true,false,false,false,false,false,false,false,false,false,false,false,false,false,false,false,false,false,false,false,false,false,false,false]
def b70q : Array Bool := #[true,true,true,true,true,true,true,false,false,false,false,false,false,false,false,false,false,false,false,false,false,false,false,false,false,false,false,false,false]
def b71q : Array Bool := #[true,true,true,true,true,true,true,true,false,false,false,false,false,false,false,false,false,false,false,false,false,false,false,false,false,false,false,false,false]
def b72q : Array Bool := #[true,true,true,true,true,true,true,true,true,false,false,false,false,false,false,false,false,false,false,false,false,false,false,false,false,false,false,false,false]
def b73q : Array Bool := #[true,true,true,true,true,true,true,true,true,true,false,false,false,false,false,false,false,false,false,false,false,false,false,false,false,false,false,false,false]
def b74q : Array Bool := #[true,true,true,true,true,true,true,true,true,true,true,false,false,false,false,false,false,false,false,false,false,false,false,false,false,false,false,false,false]
def b75q : Array Bool := #[true,true,true,true,true,true,true,true,true,true,true,true,false,false,false,false,false,false,false,false,false,false,false,false,false,false,false,false,false]
def b76q : Array Bool := #[true,true,true,true,true,true,true,true,true,true,true,true,true,false,false,false,false,false,false,false,false,false,false,false,false,false,false,false,false]
def b77q : Array Bool := #[true,true,true,true,true,true,true,true,true,true,true,true,true,true,false,false,false,false,false,false,false,false,false,false,false,false,false,false,false]
def b78q : Array Bool := #[true,true,true,true,true,true,true,true,true,true,true,true,true,true,true,false,false,false,false,false,false,false,false,false,false,false,false,false,false]
def b79q : Array Bool := #[true,true,true,true,true,true,true,true,true,true,true,true,true,true,true,true,false,false,false,false,false,false,false,false,false,false,false,false,false]
def b80q : Array Bool := #[true,true,true,true,true,true,true,true,true,true,true,true,true,true,true,true,true,false,false,false,false,false,false,false,false,false,false,false,false]
def b81q : Array Bool := #[true,true,true,true,true,true,true,true,true,true,true,true,true,true,true,true,true,true,false,false,false,false,false,false,false,false,false,false,false]
def b82q : Array Bool := #[true,true,true,true,true,true,true,true,true,true,true,true,true,true,true,true,true,true,true,false,false,false,false,false,false,false,false,false,false]
def b83q : Array Bool := #[true,true,true,true,true,true,true,true,true,true,true,true,true,true,true,true,true,true,true,true,false,false,false,false,false,false,false,false,false]
def b84q : Array Bool := #[true,true,true,true,true,true,true,true,true,true,true,true,true,true,true,true,true,true,true,true,true,false,false,false,false,false,false,false,false]
def b85q : Array Bool := #[true,true,true,true,true,true,true,true,true,true,true,true,true,true,true,true,true,true,true,true,true,true,false,false,false,false,false,false,false]
def b86q : Array Bool := #[true,true,true,true,true,true,true,true,true,true,true,true,true,true,true,true,true,true,true,true,true,true,true,false,false,false,false,false,false]
def b87q : Array Bool := #[true,true,true,true,true,true,true,true,true,true,true,true,true,true,true,true,true,true,true,true,true,true,true,true,false,false,false,false,false]
def b88q : Array Bool := #[true,true,true,true,true,true,true,true,true,true,true,true,true,true,true,true,true,true,true,true,true,true,true,true,true,false,false,false,false]
def b89q : Array Bool := #[true,true,true,true,true,true,true,true,true,true,true,true,true,true,true,true,true,true,true,true,true,true,true,true,true,true,false,false,false]
def b90q : Array Bool := #[true,true,true,true,true,true,true,true,true,true,true,true,true,true,true,true,true,true,true,true,true,true,true,true,true,true,true,false,false]
def b91q : Array Bool := #[true,true,true,true,true,true,true,true,true,true,true,true,true,true,true,true,true,true,true,true,true,true,true,true,true,true,true,true,false]
def b92q : Array Bool := #[true,true,true,true,true,true,true,true,true,true,true,true,true,true,true,true,true,true,true,true,true,true,true,true,true,true,true,true,true]
def b93q : Array Bool := #[true,true,true,true,true,true,true,true,true,true,true,true,true,true,false,true,false,false,false,false,false,false,false,false,false,false,false,false,false]
def b94q : Array Bool := #[true,true,true,true,true,true,true,true,true,true,true,true,true,true,false,true,true,false,false,false,false,false,false,false,false,false,false,false,false]
def b95q : Array Bool := #[true,true,true,true,true,true,true,true,true,true,true,true,true,true,false,true,true,false,false,false,true,false,false,false,false,false,false,false,false]
def b96q : Array Bool := #[true,true,true,true,true,true,true,true,true,true,true,true,true,true,false,true,true,false,false,false,true,false,true,false,false,false,false,false,false]
def b97q : Array Bool := #[true,true,true,true,true,true,true,true,true,true,true,true,true,true,true,true,true,false,false,false,true,false,true,false,false,false,false,false,false]
def b98q : Array Bool := #[true,true,true,true,true,true,true,true,true,true,true,true,true,true,true,true,true,true,false,false,true,false,true,false,false,false,false,false,false]
def b99q : Array Bool := #[true,true,true,true,true,true,true,true,true,true,true,true,true,true,true,true,true,true,true,false,true,false,true,false,false,false,false,false,false]
def b100q : Array Bool := #[true,true,true,true,true,true,true,true,true,true,true,true,true,true,true,true,true,true,true,true,true,false,true,false,false,false,false,false,false]
set_option maxHeartbeats 8000000 in
set_option maxRecDepth 100000 in
theorem spec_ClientOk.calls (k : Nat) (qp : Int) (ql : Int) (wd : Option Addr) (qv : Nat) (qf : List (S104)) (wg : Option Addr) (qu : Nat) (qc : List (S106)) (qx : Option Addr) (qt : Nat) (qg : List (S113)) (qz : Option Addr) (qr : Nat) (qh : List (S113)) (r : Bool) (w : World) (qsc : Kd.C k104 w wd qf.length qf) (qsg : qf.length ≤ qv) (qsb : Kd.C k106 w wg qc.length qc) (qsf : qc.length ≤ qu) (qsa : Kd.C k113 w qx qg.length qg) (qse : qg.length ≤ qt) (qrz : Kd.C k113 w qz qh.length qh) (qsd : qh.length ≤ qr) (h : spec_ClientOk.f k qp ql qf qc qg qh = some r) :
  Calls Try.prog 48 #[.agg #[.int .i64 qp,.int .i64 ql,.slice wd qf.length qv,.slice wg qc.length qu,.slice qx qg.length qt,.slice qz qh.length qr]] w fun e w' => e = .returned (.bool r) ∧ Below w.heap.size w w':=by
 have wah:=Try.underlying28
 have qyo:=Try.underlying104
 have qyn:=Try.underlying106
 have wag:=Try.underlying41
 have qym:=Try.underlying113
 have jr:=Aside0.mk qsc
 have gs:=Aside0.mk qsg
 clear qsc qsg
 have jt:=Aside0.mk qsb
 have gr:=Aside0.mk qsf
 clear qsb qsf
 have jd:=Aside0.mk qsa
 have jx:=Aside0.mk qse
 clear qsa qse
 have jq:=Aside0.mk qrz
 have gf:=Aside0.mk qsd
 clear qrz qsd
 have HB:=Aside0.mk (Below.refl w.heap.size w)
 have H : ((spec_l1User.f qp).bind fun qbd=>(if qbd = true then ((spec_l6In.f ql 0 60).bind fun gl=>(spec_ClientOk.j0 k (!gl) qp ql qf qc qg qh)) else (spec_ClientOk.j0 k true qp ql qf qc qg qh))) = some r:=h
 clear h
 have HC2:=Aside0.mk H
 clear H
 go_enter Try.func48,Try.ntmps48
 go_upto_region 1 with (first|((with_reducible refine gate_dst (N:=1) rfl ?_);refine box_event ?hg (N:=1) ?hd (cs:=#[.int .i64 qp,.int .i64 ql,.slice wd qf.length qv,.slice wg qc.length qu,.slice qx qg.length qt,.slice qz qh.length qr]) (t:=28) ?hr ?_;(case hd=>rfl);(case hg=>rfl);(case hr=>first|(go_simp;done)|(go_simp;rfl));intro qb hg w3 hbox hb;have n0_:=Aside0.mk (below_step z13x10 hb);have n1_:=Aside0.mk (hbox);have n2_:=Aside0.mk ((by rw [hg];exact (below_size z13x10) : w.heap.size ≤ qb));have n3_:=Aside0.mk ((by rw [hg];exact (below_size z13x10) : w.heap.size ≤ qb));clear HB;have HB:=n0_;have qa:=n1_;have qzo:=n2_;have vm:=n3_;clear n0_ n1_ n2_ n3_;clear hb hbox hg))
 (try simp only [Act.put,List.setIfInBounds_toArray,List.set_cons_zero,List.set_cons_succ])
 go_cut [18] (fun v18 wc=>∃ (kq : Nat) (pf : Bool),v18 = .bool pf ∧ Aside0 (spec_ClientOk.j0 kq pf qp ql qf qc qg qh = some r) ∧ Aside0 (kq ≤ k) ∧ Aside0 (wc.heap[qb]? = some (.cells #[.int .i64 qp,.int .i64 ql,(.slice wd qf.length qv),(.slice wg qc.length qu),(.slice qx qg.length qt),(.slice qz qh.length qr)] 28 (0,0))) ∧ Aside0 (Below w.heap.size w wc))
 case first =>
  have H:=HC2.out
  clear HC2
  replace H:=Option.bind_eq_some_iff.mp H
  obtain ⟨qbd,A40,H⟩:=H
  replace H : (if qbd = true then ((spec_l6In.f ql 0 60).bind fun gl=>(spec_ClientOk.j0 k (!gl) qp ql qf qc qg qh)) else (spec_ClientOk.j0 k true qp ql qf qc qg qh)) = some r:=H
  have A4:=Aside0.mk A40
  clear A40
  by_cases c5 : qbd = true
  rotate_left
  ·replace c5:=Bool.eq_false_iff.mpr c5
   subst c5
   rw [if_neg (show ¬ (false = true) by decide)] at H
   have H':=Aside0.mk H
   clear H
   have qdr : w3.cell? ⟨qb,0,none⟩ = some (.int .i64 qp):=(blk_cell qa.out 0).trans rfl
   have qdq : w3.cell? ⟨qb,1,none⟩ = some (.int .i64 ql):=(blk_cell qa.out 1).trans rfl
   have qdp : w3.cell? ⟨qb,2,none⟩ = some (.slice wd qf.length qv):=(blk_cell qa.out 2).trans rfl
   have qdo : w3.cell? ⟨qb,3,none⟩ = some (.slice wg qc.length qu):=(blk_cell qa.out 3).trans rfl
   have qdn : w3.cell? ⟨qb,4,none⟩ = some (.slice qx qg.length qt):=(blk_cell qa.out 4).trans rfl
   have qdm : w3.cell? ⟨qb,5,none⟩ = some (.slice qz qh.length qr):=(blk_cell qa.out 5).trans rfl
   have qbr:=blk_frozen qa.out 0
   have qbq:=blk_frozen qa.out 1
   have qbp:=blk_frozen qa.out 2
   have qbo:=blk_frozen qa.out 3
   have qbn:=blk_frozen qa.out 4
   have qbm:=blk_frozen qa.out 5
   go_wp2_with (first|((with_reducible refine gate_callee (f:=65) rfl ?_);refine goesL_ (some 11) rfl rfl Try.func65 (by kernel_rfl) rfl #[.int .i64 qp] rfl z13x9 ?_;(with_reducible refine (spec_l1User.calls qp false _ A4.out).mono ?_);rintro e w' ⟨rfl,⟨nd,rfl⟩⟩; refine ⟨_,rfl,?_⟩))
   go_meet
   case rel=>exact ⟨_,(true),(by first|rfl|(simp;done)|(simp [*];done)),H',⟨by first|omega|exact Nat.le_refl _⟩,⟨by (with_reducible repeat (first|refine blk_drewN ?_ _|refine blk_drew ?_|refine blk_alloc ?_ _));exact qa.out⟩,⟨by repeat (first|(with_reducible first|exact HB.out|apply below_alloc|apply pw_below_drewN|apply below_drew1|refine below_set ?_ vm.out)|exact HB.out)⟩⟩
  subst c5
  rw [if_pos rfl] at H
  replace H:=Option.bind_eq_some_iff.mp H
  obtain ⟨gl,A60,H⟩:=H
  replace H : (spec_ClientOk.j0 k (!gl) qp ql qf qc qg qh) = some r:=H
  have A6:=Aside0.mk A60
  clear A60
  have H':=Aside0.mk H
  clear H
  have qdx : w3.cell? ⟨qb,0,none⟩ = some (.int .i64 qp):=(blk_cell qa.out 0).trans rfl
  have qdw : w3.cell? ⟨qb,1,none⟩ = some (.int .i64 ql):=(blk_cell qa.out 1).trans rfl
  have qdv : w3.cell? ⟨qb,2,none⟩ = some (.slice wd qf.length qv):=(blk_cell qa.out 2).trans rfl
  have qdu : w3.cell? ⟨qb,3,none⟩ = some (.slice wg qc.length qu):=(blk_cell qa.out 3).trans rfl
  have qdt : w3.cell? ⟨qb,4,none⟩ = some (.slice qx qg.length qt):=(blk_cell qa.out 4).trans rfl
  have qds : w3.cell? ⟨qb,5,none⟩ = some (.slice qz qh.length qr):=(blk_cell qa.out 5).trans rfl
  have qbx:=blk_frozen qa.out 0
  have qbw:=blk_frozen qa.out 1
  have qbv:=blk_frozen qa.out 2
  have qbu:=blk_frozen qa.out 3
  have qbt:=blk_frozen qa.out 4
  have qbs:=blk_frozen qa.out 5
  go_wp2_with (first|((with_reducible refine gate_callee (f:=65) rfl ?_);refine goesL_ (some 11) rfl rfl Try.func65 (by kernel_rfl) rfl #[.int .i64 qp] rfl z13x9 ?_;(with_reducible refine (spec_l1User.calls qp true _ A4.out).mono ?_);rintro e w' ⟨rfl,⟨nd,rfl⟩⟩; refine ⟨_,rfl,?_⟩)|(go_at_call 98;(with_reducible refine (spec_l6In.calls ql 0 60 gl _ A6.out).mono ?_);rintro e w' ⟨rfl,⟨nd,rfl⟩⟩))
  go_meet
  case rel=>exact ⟨_,(!gl),(by first|rfl|(simp;done)|(simp [*];done)),H',⟨by first|omega|exact Nat.le_refl _⟩,⟨by (with_reducible repeat (first|refine blk_drewN ?_ _|refine blk_drew ?_|refine blk_alloc ?_ _));exact qa.out⟩,⟨by repeat (first|(with_reducible first|exact HB.out|apply below_alloc|apply pw_below_drewN|apply below_drew1|refine below_set ?_ vm.out)|exact HB.out)⟩⟩
 case rest =>
  clear HC2
  try clear p2
  try clear c4
  try clear c5
  try clear c6
  try clear qdx
  try clear qdw
  try clear qdv
  try clear qdu
  try clear qdt
  try clear qds
  try clear qdr
  try clear qdq
  try clear qdp
  try clear qdo
  try clear qdn
  try clear qdm
  try clear qbx
  try clear qbw
  try clear qbv
  try clear qbu
  try clear qbt
  try clear qbs
  try clear qbr
  try clear qbq
  try clear qbp
  try clear qbo
  try clear qbn
  try clear qbm
  obtain ⟨kq,pf,rfl,HA,HJ1,qa,HB⟩:=hcut
  cases kq with
  | zero=>exact absurd HA.out (by simp [spec_ClientOk.j0])
  | succ kj1 =>
   have H:=HA.out
   clear HA
   simp only [spec_ClientOk.j0] at H
   by_cases c9 : pf = true
   ·subst c9
    rw [if_pos rfl] at H
    obtain rfl:=Option.some.inj H
    go_wp2
    go_ret
    exact ⟨by first|rfl|(simp [errW_none,errW_some] <;> rfl)|(simp [*,errW_none,errW_some] <;> rfl),by repeat (first|(with_reducible first|exact HB.out|apply below_alloc|apply pw_below_drewN|apply below_drew1|refine below_set ?_ vm.out)|exact HB.out)⟩
   ·replace c9:=Bool.eq_false_iff.mpr c9
    subst c9
    rw [if_neg (show ¬ (false = true) by decide)] at H
    have H':=Aside0.mk H
    clear H
    go_wp2
    go_loopg [3] kj1 (fun kq v3 w' => ∃ (qn : Int),v3 = .int .i64 qn ∧ Aside0 (spec_ClientOk.l0 kq qn qp ql qf qc qg qh = some r) ∧ Aside0 (kq ≤ kj1) ∧ Aside0 (w'.heap[qb]? = some (.cells #[.int .i64 qp,.int .i64 ql,(.slice wd qf.length qv),(.slice wg qc.length qu),(.slice qx qg.length qt),(.slice qz qh.length qr)] 28 (0,0))) ∧ Aside0 (Below w.heap.size w w'))
    case atStart=>exact ⟨(0),(by first|rfl|(simp;done)|(simp [*];done)),H',⟨Nat.le_refl _⟩,⟨by (with_reducible repeat (first|refine blk_drewN ?_ _|refine blk_drew ?_|refine blk_alloc ?_ _));exact qa.out⟩,⟨by repeat (first|(with_reducible first|exact HB.out|apply below_alloc|apply pw_below_drewN|apply below_drew1|refine below_set ?_ vm.out)|exact HB.out)⟩⟩
    case round =>
     clear H'
     try clear p2
     try clear c4
     try clear c5
     try clear c6
     try clear c9
     try clear qdx
     try clear qdw
     try clear qdv
     try clear qdu
     try clear qdt
     try clear qds
     try clear qdr
     try clear qdq
     try clear qdp
     try clear qdo
     try clear qdn
     try clear qdm
     try clear qbx
     try clear qbw
     try clear qbv
     try clear qbu
     try clear qbt
     try clear qbs
     try clear qbr
     try clear qbq
     try clear qbp
     try clear qbo
     try clear qbn
     try clear qbm
     try clear p2
     obtain ⟨qn,rfl,HA,HK2,qa,HB⟩:=hrel
     cases gk with
     | zero=>exact absurd HA.out (by simp [spec_ClientOk.l0])
     | succ k2 =>
      have H:=HA.out
      clear HA
      simp only [spec_ClientOk.l0] at H
      by_cases c10 : qn < (qf.length : Int)
      ·rw [if_pos c10] at H
       have qfq : decide (qn < (qf.length : Int)) = true:=decide_eq_true c10
       clear c10
       by_cases c11 : 0 ≤ qn
       rotate_left
       ·rw [if_neg c11] at H
        exact absurd H (by simp)
       rw [if_pos c11] at H
       have qzl : decide (0 ≤ qn) = true:=decide_eq_true c11
       clear c11
       replace H:=Option.bind_eq_some_iff.mp H
       obtain ⟨qgf,qwd,H⟩:=H
       replace H : (if qgf = true then ((spec_l6In.f ((rd_T104 qf qn).f1) 1 ql).bind fun qbc=>(if qbc = true then (if qn > 0 then (if 0 ≤ (wrap64 (qn - 1)) then (if (wrap64 (qn - 1)) < (qf.length : Int) then (if ((rd_T104 qf (wrap64 (qn - 1))).f1) ≥ ((rd_T104 qf qn).f1) then (some false) else (spec_ClientOk.l0 k2 (wrap64 (qn + 1)) qp ql qf qc qg qh)) else (none)) else (none)) else (spec_ClientOk.l0 k2 (wrap64 (qn + 1)) qp ql qf qc qg qh)) else (some false))) else (some false)) = some r:=H
       have A12:=Aside0.mk qwd
       clear qwd
       by_cases c13 : qgf = true
       rotate_left
       ·replace c13:=Bool.eq_false_iff.mpr c13
        subst c13
        rw [if_neg (show ¬ (false = true) by decide)] at H
        obtain rfl:=Option.some.inj H
        have qar : wr.cell? ⟨qb,0,none⟩ = some (.int .i64 qp):=(blk_cell qa.out 0).trans rfl
        have qaq : wr.cell? ⟨qb,1,none⟩ = some (.int .i64 ql):=(blk_cell qa.out 1).trans rfl
        have qap : wr.cell? ⟨qb,2,none⟩ = some (.slice wd qf.length qv):=(blk_cell qa.out 2).trans rfl
        have qao : wr.cell? ⟨qb,3,none⟩ = some (.slice wg qc.length qu):=(blk_cell qa.out 3).trans rfl
        have qan : wr.cell? ⟨qb,4,none⟩ = some (.slice qx qg.length qt):=(blk_cell qa.out 4).trans rfl
        have qam : wr.cell? ⟨qb,5,none⟩ = some (.slice qz qh.length qr):=(blk_cell qa.out 5).trans rfl
        have pu:=blk_frozen qa.out 0
        have pt:=blk_frozen qa.out 1
        have pr:=blk_frozen qa.out 2
        have pq:=blk_frozen qa.out 3
        have pp:=blk_frozen qa.out 4
        have po:=blk_frozen qa.out 5
        have jp : 0 ≤ (qn : Int):=of_decide_eq_true (by first|(with_reducible assumption)|assumption)
        have jo : qn < (qf.length : Int):=of_decide_eq_true (by first|(with_reducible assumption)|assumption)
        obtain ⟨ub,gm,vl,vk⟩:=at_T104 jr.out qn jp jo
        cases gm
        replace vl:=(HB.out.cell (World.block_lt_of_cell? w _ vl)).trans vl
        replace vk:=(HB.out.cell (World.block_lt_of_cell? w _ vk)).trans vk
        replace jp:=eq_true jp
        replace jo:=eq_true jo
        try go_wp2_with (first|((with_reducible refine gate_dst (N:=4) rfl ?_);refine box_event ?hg (N:=4) ?hd (cs:=#[.int .i64 0,.int .i64 0]) (t:=104) ?hr ?_;(case hd=>rfl);(case hg=>rfl);(case hr=>first|(go_simp;done)|(go_simp;rfl));intro qm hg w46 hbox hb;have n0_:=Aside0.mk (blk_below (g:=qb) (o:=.cells #[.int .i64 qp,.int .i64 ql,.slice (some ub) qf.length qv,.slice wg qc.length qu,.slice qx qg.length qt,.slice qz qh.length qr] 28 (0,0)) z13x11 hb);have n1_:=Aside0.mk (below_step z13x8 hb);have n2_:=Aside0.mk (hbox);have n3_:=Aside0.mk ((z13x7 : w.heap.size ≤ qm));have n4_:=Aside0.mk ((z13x7 : w.heap.size ≤ qm));have n5_:=Aside0.mk ((z13x4 : qb ≠ qm));have n6_:=Aside0.mk ((z13x2 : qm ≠ qb));clear qa;clear HB;have qa:=n0_;have HB:=n1_;have qo:=n2_;have qbb:=n3_;have jn:=n4_;have wb:=n5_;have ul:=n6_;clear n0_ n1_ n2_ n3_ n4_ n5_ n6_;clear hb hbox hg;have qze:=ul.out;have qyu:=wb.out;have qal : w46.cell? ⟨qm,0,none⟩ = some (.int .i64 0):=(blk_cell qo.out 0).trans rfl;have qak : w46.cell? ⟨qm,1,none⟩ = some (.int .i64 0):=(blk_cell qo.out 1).trans rfl;have pn:=blk_frozen qo.out 0;have pm:=blk_frozen qo.out 1))
        have n0_ : Aside0 (((w46.setCell ⟨qm,0,none⟩ (.int .i64 ((rd_T104 qf qn).f0))).setCell ⟨qm,1,none⟩ (.int .i64 ((rd_T104 qf qn).f1))).heap[qb]? = some (.cells #[.int .i64 qp,.int .i64 ql,.slice (some ub) qf.length qv,.slice wg qc.length qu,.slice qx qg.length qt,.slice qz qh.length qr] 28 (0,0))):=⟨by (with_reducible repeat (first|refine blk_drewN ?_ _|refine blk_drew ?_|refine blk_alloc ?_ _));refine blk_far ?_ wb.out _;(with_reducible repeat (first|refine blk_drewN ?_ _|refine blk_drew ?_|refine blk_alloc ?_ _));refine blk_far ?_ wb.out _;(with_reducible repeat (first|refine blk_drewN ?_ _|refine blk_drew ?_|refine blk_alloc ?_ _));exact qa.out⟩
        have n1_ : Aside0 (((w46.setCell ⟨qm,0,none⟩ (.int .i64 ((rd_T104 qf qn).f0))).setCell ⟨qm,1,none⟩ (.int .i64 ((rd_T104 qf qn).f1))).heap[qm]? = some (.cells #[.int .i64 ((rd_T104 qf qn).f0),.int .i64 ((rd_T104 qf qn).f1)] 104 (0,0))):=⟨by (with_reducible repeat (first|refine blk_drewN ?_ _|refine blk_drew ?_|refine blk_alloc ?_ _));refine blk_put (cs:=#[.int .i64 ((rd_T104 qf qn).f0),.int .i64 0]) ?_ 1 _ rfl;(with_reducible repeat (first|refine blk_drewN ?_ _|refine blk_drew ?_|refine blk_alloc ?_ _));refine blk_put (cs:=#[.int .i64 0,.int .i64 0]) ?_ 0 _ rfl;(with_reducible repeat (first|refine blk_drewN ?_ _|refine blk_drew ?_|refine blk_alloc ?_ _));exact qo.out⟩
        have n2_ : Aside0 (Below w.heap.size w ((w46.setCell ⟨qm,0,none⟩ (.int .i64 ((rd_T104 qf qn).f0))).setCell ⟨qm,1,none⟩ (.int .i64 ((rd_T104 qf qn).f1)))):=⟨by repeat (first|(with_reducible first|exact HB.out|apply below_alloc|apply pw_below_drewN|apply below_drew1|refine below_set ?_ vm.out|refine below_set ?_ jn.out)|exact HB.out)⟩
        (try clear qa)
        (try clear qo)
        (try clear HB)
        generalize ((w46.setCell ⟨qm,0,none⟩ (.int .i64 ((rd_T104 qf qn).f0))).setCell ⟨qm,1,none⟩ (.int .i64 ((rd_T104 qf qn).f1))) = w49 at n0_ n1_ n2_ ⊢
        have qa:=n0_
        have qo:=n1_
        have HB:=n2_
        clear n0_ n1_ n2_
        have n0_:=Aside0.mk (blk_drew qa.out)
        have n1_:=Aside0.mk (blk_drew qo.out)
        have n2_:=Aside0.mk (below_drew1 HB.out)
        clear qa
        clear qo
        clear HB
        have qa:=n0_
        have qo:=n1_
        have HB:=n2_
        clear n0_ n1_ n2_
        refine start_ (n:=28) (S:=fun w' => w'.cell? ⟨qm,0,none⟩ = some (.int .i64 ((rd_T104 qf qn).f0)) ∧ w'.cell? ⟨qm,1,none⟩ = some (.int .i64 ((rd_T104 qf qn).f1))) (ds:=[]) b0q (by kernel_rfl) rfl rfl ⟨(blk_cell qo.out 0).trans rfl,(blk_cell qo.out 1).trans rfl⟩ (fun hHeld=>?_);refine with_tabW spec_ClientOk.tab7 spec_ClientOk.bits7 (fun HT_ HW_=>?_)
        generalize w49.drew = w50 at qa qo HB hHeld ⊢
        refine pure_ (i:=0) (N:=some 31) (v:=?_) (a':=?_) b1q rfl rfl (any_of HT_.out (by kernel_rfl)) (fun _ _ _ h=>h) (Or.inl ⟨by rfl,?_⟩) ?_ ?_;rotate_left;(intro w';go_simp;with_reducible rfl);rotate_left;(exact z13a)
        refine take_ (i:=1) (N:=some 32) (v:=?_) (a':=?_) b2q rfl rfl (take_ofW HT_.out HW_.out (by kernel_rfl)) (fun _ _ _ h=>h) (Or.inl ⟨by rfl,?_⟩) hHeld ?_ ?_;rotate_left;(rintro w' ⟨s0,s1⟩;go_simp;with_reducible rfl);rotate_left;(exact z13a)
        refine one_ (i:=2) (N:=some 33) b3q rfl rfl (one_of HT_.out (by kernel_rfl)) (by decide) (fun K hK=>?_)
        refine goes_ Try.func98 (by kernel_rfl) rfl #[.int .i64 ((rd_T104 qf qn).f0),.int .i64 4,.int .i64 6] (by rfl) rfl rfl z13x9 ?_
        with_reducible refine (spec_l6In.calls ((rd_T104 qf qn).f0) 4 6 false _ A12.out).mono ?_
        rintro e w' ⟨rfl,⟨nd,rfl⟩⟩
        refine ⟨_,rfl,?_⟩
        refine hK.out _ _ ⟨(blk_cell qo.out 0).trans rfl,(blk_cell qo.out 1).trans rfl⟩ (fun hHeld=>?_)
        clear hK K
        refine norm_ (a':=?_) ?_ ?_
        rotate_left
        ·show Act.put _ (some 33) _ = _
         simp only [Act.put,List.setIfInBounds_toArray,List.set_cons_zero,List.set_cons_succ,i64_w,i32_w]
         rfl
        refine pure_ (i:=3) (N:=some 34) (v:=?_) (a':=?_) b4q rfl rfl (any_of HT_.out (by kernel_rfl)) (fun _ _ _ h=>h) (Or.inl ⟨by rfl,?_⟩) ?_ ?_;rotate_left;(intro w';go_simp;with_reducible rfl);rotate_left;(exact z13a)
        refine pure_ (i:=4) (N:=some 35) (v:=?_) (a':=?_) b5q rfl rfl (any_of HT_.out (by kernel_rfl)) (fun _ _ _ h=>h) (Or.inl ⟨by rfl,?_⟩) ?_ ?_;rotate_left;(intro w';go_simp;with_reducible rfl);rotate_left;(exact z13a)
        refine pure_ (i:=5) (N:=some 36) (v:=undef) (a':=?_) b6q rfl rfl (any_of HT_.out (by kernel_rfl)) (fun _ _ _ h=>h) (Or.inr ⟨by rfl,rfl⟩) ?_ ?_
        rotate_left
        ·exact z13a
        refine pure_ (i:=6) (N:=some 37) (v:=undef) (a':=?_) b7q rfl rfl (any_of HT_.out (by kernel_rfl)) (fun _ _ _ h=>h) (Or.inr ⟨by rfl,rfl⟩) ?_ ?_
        rotate_left
        ·exact z13a
        refine pure_ (i:=7) (N:=some 38) (v:=undef) (a':=?_) b8q rfl rfl (any_of HT_.out (by kernel_rfl)) (fun _ _ _ h=>h) (Or.inr ⟨by rfl,rfl⟩) ?_ ?_
        rotate_left
        ·exact z13a
        refine pure_ (i:=8) (N:=some 39) (v:=undef) (a':=?_) b9q rfl rfl (any_of HT_.out (by kernel_rfl)) (fun _ _ _ h=>h) (Or.inr ⟨by rfl,rfl⟩) ?_ ?_
        rotate_left
        ·exact z13a
        refine pure_ (i:=9) (N:=some 40) (v:=undef) (a':=?_) b10q rfl rfl (any_of HT_.out (by kernel_rfl)) (fun _ _ _ h=>h) (Or.inr ⟨by rfl,rfl⟩) ?_ ?_
        rotate_left
        ·exact z13a
        refine pure_ (i:=10) (N:=some 41) (v:=undef) (a':=?_) b11q rfl rfl (any_of HT_.out (by kernel_rfl)) (fun _ _ _ h=>h) (Or.inr ⟨by rfl,rfl⟩) ?_ ?_
        rotate_left
        ·exact z13a
        refine pure_ (i:=11) (N:=some 42) (v:=?_) (a':=?_) b12q rfl rfl (any_of HT_.out (by kernel_rfl)) (fun _ _ _ h=>h) (Or.inl ⟨by rfl,?_⟩) ?_ ?_;rotate_left;(intro w';go_simp;with_reducible rfl);rotate_left;(exact z13a)
        refine pure_ (i:=12) (N:=some 43) (v:=?_) (a':=?_) b13q rfl rfl (any_of HT_.out (by kernel_rfl)) (fun _ _ _ h=>h) (Or.inl ⟨by rfl,?_⟩) ?_ ?_;rotate_left;(intro w';go_simp;with_reducible rfl);rotate_left;(exact z13a)
        refine pure_ (i:=13) (N:=some 44) (v:=undef) (a':=?_) b14q rfl rfl (any_of HT_.out (by kernel_rfl)) (fun _ _ _ h=>h) (Or.inr ⟨by rfl,rfl⟩) ?_ ?_
        rotate_left
        ·exact z13a
        refine pure_ (i:=14) (N:=some 45) (v:=undef) (a':=?_) b15q rfl rfl (any_of HT_.out (by kernel_rfl)) (fun _ _ _ h=>h) (Or.inr ⟨by rfl,rfl⟩) ?_ ?_
        rotate_left
        ·exact z13a
        refine pure_ (i:=15) (N:=some 46) (v:=undef) (a':=?_) b16q rfl rfl (any_of HT_.out (by kernel_rfl)) (fun _ _ _ h=>h) (Or.inr ⟨by rfl,rfl⟩) ?_ ?_
        rotate_left
        ·exact z13a
        refine pure_ (i:=16) (N:=some 47) (v:=undef) (a':=?_) b17q rfl rfl (any_of HT_.out (by kernel_rfl)) (fun _ _ _ h=>h) (Or.inr ⟨by rfl,rfl⟩) ?_ ?_
        rotate_left
        ·exact z13a
        refine pure_ (i:=17) (N:=some 48) (v:=undef) (a':=?_) b18q rfl rfl (any_of HT_.out (by kernel_rfl)) (fun _ _ _ h=>h) (Or.inr ⟨by rfl,rfl⟩) ?_ ?_
        rotate_left
        ·exact z13a
        refine pure_ (i:=18) (N:=some 49) (v:=undef) (a':=?_) b19q rfl rfl (any_of HT_.out (by kernel_rfl)) (fun _ _ _ h=>h) (Or.inr ⟨by rfl,rfl⟩) ?_ ?_
        rotate_left
        ·exact z13a
        refine pure_ (i:=19) (N:=some 50) (v:=undef) (a':=?_) b20q rfl rfl (any_of HT_.out (by kernel_rfl)) (fun _ _ _ h=>h) (Or.inr ⟨by rfl,rfl⟩) ?_ ?_
        rotate_left
        ·exact z13a
        refine pure_ (i:=20) (N:=some 51) (v:=undef) (a':=?_) b21q rfl rfl (any_of HT_.out (by kernel_rfl)) (fun _ _ _ h=>h) (Or.inr ⟨by rfl,rfl⟩) ?_ ?_
        rotate_left
        ·exact z13a
        refine pure_ (i:=21) (N:=some 52) (v:=undef) (a':=?_) b22q rfl rfl (any_of HT_.out (by kernel_rfl)) (fun _ _ _ h=>h) (Or.inr ⟨by rfl,rfl⟩) ?_ ?_
        rotate_left
        ·exact z13a
        refine pure_ (i:=22) (N:=some 53) (v:=undef) (a':=?_) b23q rfl rfl (any_of HT_.out (by kernel_rfl)) (fun _ _ _ h=>h) (Or.inr ⟨by rfl,rfl⟩) ?_ ?_
        rotate_left
        ·exact z13a
        refine pure_ (i:=23) (N:=some 54) (v:=undef) (a':=?_) b24q rfl rfl (any_of HT_.out (by kernel_rfl)) (fun _ _ _ h=>h) (Or.inr ⟨by rfl,rfl⟩) ?_ ?_
        rotate_left
        ·exact z13a
        refine pure_ (i:=24) (N:=some 55) (v:=undef) (a':=?_) b25q rfl rfl (any_of HT_.out (by kernel_rfl)) (fun _ _ _ h=>h) (Or.inr ⟨by rfl,rfl⟩) ?_ ?_
        rotate_left
        ·exact z13a
        refine pure_ (i:=25) (N:=some 56) (v:=undef) (a':=?_) b26q rfl rfl (any_of HT_.out (by kernel_rfl)) (fun _ _ _ h=>h) (Or.inr ⟨by rfl,rfl⟩) ?_ ?_
        rotate_left
        ·exact z13a
        refine pure_ (i:=26) (N:=some 57) (v:=undef) (a':=?_) b27q rfl rfl (any_of HT_.out (by kernel_rfl)) (fun _ _ _ h=>h) (Or.inr ⟨by rfl,rfl⟩) ?_ ?_
        rotate_left
        ·exact z13a
        refine pure_ (i:=27) (N:=some 58) (v:=?_) (a':=?_) b28q rfl rfl (any_of HT_.out (by kernel_rfl)) (fun _ _ _ h=>h) (Or.inl ⟨by rfl,?_⟩) ?_ ?_;rotate_left;(intro w';go_simp;with_reducible rfl);rotate_left;(exact z13a)
        refine done_ (done_of HT_.out (by kernel_rfl)) ?_
        try go_wp2
        go_ret
        exact ⟨by first|rfl|(simp [errW_none,errW_some] <;> rfl)|(simp [*,errW_none,errW_some] <;> rfl),by repeat (first|(with_reducible first|exact HB.out|apply below_alloc|apply pw_below_drewN|apply below_drew1|refine below_set ?_ vm.out|refine below_set ?_ jn.out)|exact HB.out)⟩
       subst c13
       rw [if_pos rfl] at H
       replace H:=Option.bind_eq_some_iff.mp H
       obtain ⟨qbc,qwb,H⟩:=H
       replace H : (if qbc = true then (if qn > 0 then (if 0 ≤ (wrap64 (qn - 1)) then (if (wrap64 (qn - 1)) < (qf.length : Int) then (if ((rd_T104 qf (wrap64 (qn - 1))).f1) ≥ ((rd_T104 qf qn).f1) then (some false) else (spec_ClientOk.l0 k2 (wrap64 (qn + 1)) qp ql qf qc qg qh)) else (none)) else (none)) else (spec_ClientOk.l0 k2 (wrap64 (qn + 1)) qp ql qf qc qg qh)) else (some false)) = some r:=H
       have A14:=Aside0.mk qwb
       clear qwb
       by_cases c15 : qbc = true
       rotate_left
       ·replace c15:=Bool.eq_false_iff.mpr c15
        subst c15
        rw [if_neg (show ¬ (false = true) by decide)] at H
        obtain rfl:=Option.some.inj H
        have qaz : wr.cell? ⟨qb,0,none⟩ = some (.int .i64 qp):=(blk_cell qa.out 0).trans rfl
        have qay : wr.cell? ⟨qb,1,none⟩ = some (.int .i64 ql):=(blk_cell qa.out 1).trans rfl
        have qax : wr.cell? ⟨qb,2,none⟩ = some (.slice wd qf.length qv):=(blk_cell qa.out 2).trans rfl
        have qaw : wr.cell? ⟨qb,3,none⟩ = some (.slice wg qc.length qu):=(blk_cell qa.out 3).trans rfl
        have qav : wr.cell? ⟨qb,4,none⟩ = some (.slice qx qg.length qt):=(blk_cell qa.out 4).trans rfl
        have qau : wr.cell? ⟨qb,5,none⟩ = some (.slice qz qh.length qr):=(blk_cell qa.out 5).trans rfl
        have qad:=blk_frozen qa.out 0
        have qac:=blk_frozen qa.out 1
        have qab:=blk_frozen qa.out 2
        have qaa:=blk_frozen qa.out 3
        have pz:=blk_frozen qa.out 4
        have px:=blk_frozen qa.out 5
        have jp : 0 ≤ (qn : Int):=of_decide_eq_true (by first|(with_reducible assumption)|assumption)
        have jo : qn < (qf.length : Int):=of_decide_eq_true (by first|(with_reducible assumption)|assumption)
        obtain ⟨ub,gm,vl,vk⟩:=at_T104 jr.out qn jp jo
        cases gm
        replace vl:=(HB.out.cell (World.block_lt_of_cell? w _ vl)).trans vl
        replace vk:=(HB.out.cell (World.block_lt_of_cell? w _ vk)).trans vk
        replace jp:=eq_true jp
        replace jo:=eq_true jo
        try go_wp2_with (first|((with_reducible refine gate_dst (N:=4) rfl ?_);refine box_event ?hg (N:=4) ?hd (cs:=#[.int .i64 0,.int .i64 0]) (t:=104) ?hr ?_;(case hd=>rfl);(case hg=>rfl);(case hr=>first|(go_simp;done)|(go_simp;rfl));intro qm hg w40 hbox hb;have n0_:=Aside0.mk (blk_below (g:=qb) (o:=.cells #[.int .i64 qp,.int .i64 ql,.slice (some ub) qf.length qv,.slice wg qc.length qu,.slice qx qg.length qt,.slice qz qh.length qr] 28 (0,0)) z13x11 hb);have n1_:=Aside0.mk (below_step z13x8 hb);have n2_:=Aside0.mk (hbox);have n3_:=Aside0.mk ((z13x7 : w.heap.size ≤ qm));have n4_:=Aside0.mk ((z13x7 : w.heap.size ≤ qm));have n5_:=Aside0.mk ((z13x4 : qb ≠ qm));have n6_:=Aside0.mk ((z13x2 : qm ≠ qb));clear qa;clear HB;have qa:=n0_;have HB:=n1_;have qo:=n2_;have qbb:=n3_;have jn:=n4_;have wb:=n5_;have ul:=n6_;clear n0_ n1_ n2_ n3_ n4_ n5_ n6_;clear hb hbox hg;have qzf:=ul.out;have qyv:=wb.out;have qat : w40.cell? ⟨qm,0,none⟩ = some (.int .i64 0):=(blk_cell qo.out 0).trans rfl;have qas : w40.cell? ⟨qm,1,none⟩ = some (.int .i64 0):=(blk_cell qo.out 1).trans rfl;have pw:=blk_frozen qo.out 0;have pv:=blk_frozen qo.out 1))
        have n0_ : Aside0 (((w40.setCell ⟨qm,0,none⟩ (.int .i64 ((rd_T104 qf qn).f0))).setCell ⟨qm,1,none⟩ (.int .i64 ((rd_T104 qf qn).f1))).heap[qb]? = some (.cells #[.int .i64 qp,.int .i64 ql,.slice (some ub) qf.length qv,.slice wg qc.length qu,.slice qx qg.length qt,.slice qz qh.length qr] 28 (0,0))):=⟨by (with_reducible repeat (first|refine blk_drewN ?_ _|refine blk_drew ?_|refine blk_alloc ?_ _));refine blk_far ?_ wb.out _;(with_reducible repeat (first|refine blk_drewN ?_ _|refine blk_drew ?_|refine blk_alloc ?_ _));refine blk_far ?_ wb.out _;(with_reducible repeat (first|refine blk_drewN ?_ _|refine blk_drew ?_|refine blk_alloc ?_ _));exact qa.out⟩
        have n1_ : Aside0 (((w40.setCell ⟨qm,0,none⟩ (.int .i64 ((rd_T104 qf qn).f0))).setCell ⟨qm,1,none⟩ (.int .i64 ((rd_T104 qf qn).f1))).heap[qm]? = some (.cells #[.int .i64 ((rd_T104 qf qn).f0),.int .i64 ((rd_T104 qf qn).f1)] 104 (0,0))):=⟨by (with_reducible repeat (first|refine blk_drewN ?_ _|refine blk_drew ?_|refine blk_alloc ?_ _));refine blk_put (cs:=#[.int .i64 ((rd_T104 qf qn).f0),.int .i64 0]) ?_ 1 _ rfl;(with_reducible repeat (first|refine blk_drewN ?_ _|refine blk_drew ?_|refine blk_alloc ?_ _));refine blk_put (cs:=#[.int .i64 0,.int .i64 0]) ?_ 0 _ rfl;(with_reducible repeat (first|refine blk_drewN ?_ _|refine blk_drew ?_|refine blk_alloc ?_ _));exact qo.out⟩
        have n2_ : Aside0 (Below w.heap.size w ((w40.setCell ⟨qm,0,none⟩ (.int .i64 ((rd_T104 qf qn).f0))).setCell ⟨qm,1,none⟩ (.int .i64 ((rd_T104 qf qn).f1)))):=⟨by repeat (first|(with_reducible first|exact HB.out|apply below_alloc|apply pw_below_drewN|apply below_drew1|refine below_set ?_ vm.out|refine below_set ?_ jn.out)|exact HB.out)⟩
        (try clear qa)
        (try clear qo)
        (try clear HB)
        generalize ((w40.setCell ⟨qm,0,none⟩ (.int .i64 ((rd_T104 qf qn).f0))).setCell ⟨qm,1,none⟩ (.int .i64 ((rd_T104 qf qn).f1))) = w43 at n0_ n1_ n2_ ⊢
        have qa:=n0_
        have qo:=n1_
        have HB:=n2_
        clear n0_ n1_ n2_
        have n0_:=Aside0.mk (blk_drew qa.out)
        have n1_:=Aside0.mk (blk_drew qo.out)
        have n2_:=Aside0.mk (below_drew1 HB.out)
        clear qa
        clear qo
        clear HB
        have qa:=n0_
        have qo:=n1_
        have HB:=n2_
        clear n0_ n1_ n2_
        refine start_ (n:=28) (S:=fun w' => w'.cell? ⟨qm,0,none⟩ = some (.int .i64 ((rd_T104 qf qn).f0)) ∧ w'.cell? ⟨qm,1,none⟩ = some (.int .i64 ((rd_T104 qf qn).f1)) ∧ w'.cell? ⟨qb,0,none⟩ = some (.int .i64 qp) ∧ w'.cell? ⟨qb,1,none⟩ = some (.int .i64 ql) ∧ w'.cell? ⟨qb,2,none⟩ = some (.slice (some ub) qf.length qv) ∧ w'.cell? ⟨qb,3,none⟩ = some (.slice wg qc.length qu) ∧ w'.cell? ⟨qb,4,none⟩ = some (.slice qx qg.length qt) ∧ w'.cell? ⟨qb,5,none⟩ = some (.slice qz qh.length qr)) (ds:=[]) b0q (by kernel_rfl) rfl rfl ⟨(blk_cell qo.out 0).trans rfl,(blk_cell qo.out 1).trans rfl,(blk_cell qa.out 0).trans rfl,(blk_cell qa.out 1).trans rfl,(blk_cell qa.out 2).trans rfl,(blk_cell qa.out 3).trans rfl,(blk_cell qa.out 4).trans rfl,(blk_cell qa.out 5).trans rfl⟩ (fun hHeld=>?_);refine with_tabW spec_ClientOk.tab7 spec_ClientOk.bits7 (fun HT_ HW_=>?_)
        generalize w43.drew = w44 at qa qo HB hHeld ⊢
        refine pure_ (i:=0) (N:=some 31) (v:=?_) (a':=?_) b1q rfl rfl (any_of HT_.out (by kernel_rfl)) (fun _ _ _ h=>h) (Or.inl ⟨by rfl,?_⟩) ?_ ?_;rotate_left;(intro w';go_simp;with_reducible rfl);rotate_left;(exact z13a)
        refine take_ (i:=1) (N:=some 32) (v:=?_) (a':=?_) b2q rfl rfl (take_ofW HT_.out HW_.out (by kernel_rfl)) (fun _ _ _ h=>h) (Or.inl ⟨by rfl,?_⟩) hHeld ?_ ?_;rotate_left;(rintro w' ⟨s0,s1,s2,s3,s4,s5,s6,s7⟩;go_simp;with_reducible rfl);rotate_left;(exact z13a)
        refine one_ (i:=2) (N:=some 33) b3q rfl rfl (one_of HT_.out (by kernel_rfl)) (by decide) (fun K hK=>?_)
        refine goes_ Try.func98 (by kernel_rfl) rfl #[.int .i64 ((rd_T104 qf qn).f0),.int .i64 4,.int .i64 6] (by rfl) rfl rfl z13x9 ?_
        with_reducible refine (spec_l6In.calls ((rd_T104 qf qn).f0) 4 6 true _ A12.out).mono ?_
        rintro e w' ⟨rfl,⟨nd,rfl⟩⟩
        refine ⟨_,rfl,?_⟩
        refine hK.out _ _ ⟨(blk_cell qo.out 0).trans rfl,(blk_cell qo.out 1).trans rfl,(blk_cell qa.out 0).trans rfl,(blk_cell qa.out 1).trans rfl,(blk_cell qa.out 2).trans rfl,(blk_cell qa.out 3).trans rfl,(blk_cell qa.out 4).trans rfl,(blk_cell qa.out 5).trans rfl⟩ (fun hHeld=>?_)
        clear hK K
        refine norm_ (a':=?_) ?_ ?_
        rotate_left
        ·show Act.put _ (some 33) _ = _
         simp only [Act.put,List.setIfInBounds_toArray,List.set_cons_zero,List.set_cons_succ,i64_w,i32_w]
         rfl
        refine pure_ (i:=3) (N:=some 34) (v:=?_) (a':=?_) b4q rfl rfl (any_of HT_.out (by kernel_rfl)) (fun _ _ _ h=>h) (Or.inl ⟨by rfl,?_⟩) ?_ ?_;rotate_left;(intro w';go_simp;with_reducible rfl);rotate_left;(exact z13a)
        refine pure_ (i:=4) (N:=some 35) (v:=?_) (a':=?_) b5q rfl rfl (any_of HT_.out (by kernel_rfl)) (fun _ _ _ h=>h) (Or.inl ⟨by rfl,?_⟩) ?_ ?_;rotate_left;(intro w';go_simp;with_reducible rfl);rotate_left;(exact z13a)
        refine pure_ (i:=5) (N:=some 36) (v:=?_) (a':=?_) b6q rfl rfl (any_of HT_.out (by kernel_rfl)) (fun _ _ _ h=>h) (Or.inl ⟨by rfl,?_⟩) ?_ ?_;rotate_left;(intro w';go_simp;with_reducible rfl);rotate_left;(exact z13a)
        refine pure_ (i:=7) (N:=some 38) (v:=?_) (a':=?_) b29q rfl rfl (any_of HT_.out (by kernel_rfl)) (fun _ _ _ h=>h) (Or.inl ⟨by rfl,?_⟩) ?_ ?_;rotate_left;(intro w';go_simp;with_reducible rfl);rotate_left;(exact z13a)
        refine take_ (i:=6) (N:=some 37) (v:=?_) (a':=?_) b8q rfl rfl (take_ofW HT_.out HW_.out (by kernel_rfl)) (fun _ _ _ h=>h) (Or.inl ⟨by rfl,?_⟩) hHeld ?_ ?_;rotate_left;(rintro w' ⟨s0,s1,s2,s3,s4,s5,s6,s7⟩;go_simp;with_reducible rfl);rotate_left;(exact z13a)
        refine take_ (i:=8) (N:=some 39) (v:=?_) (a':=?_) b9q rfl rfl (take_ofW HT_.out HW_.out (by kernel_rfl)) (fun _ _ _ h=>h) (Or.inl ⟨by rfl,?_⟩) hHeld ?_ ?_;rotate_left;(rintro w' ⟨s0,s1,s2,s3,s4,s5,s6,s7⟩;go_simp;with_reducible rfl);rotate_left;(exact z13a)
        refine one_ (i:=9) (N:=some 40) b10q rfl rfl (one_of HT_.out (by kernel_rfl)) (by decide) (fun K hK=>?_)
        refine goes_ Try.func98 (by kernel_rfl) rfl #[.int .i64 ((rd_T104 qf qn).f1),.int .i64 1,.int .i64 ql] (by rfl) rfl rfl z13x9 ?_
        with_reducible refine (spec_l6In.calls ((rd_T104 qf qn).f1) 1 ql false _ A14.out).mono ?_
        rintro e w' ⟨rfl,⟨nd,rfl⟩⟩
        refine ⟨_,rfl,?_⟩
        refine hK.out _ _ ⟨(blk_cell qo.out 0).trans rfl,(blk_cell qo.out 1).trans rfl,(blk_cell qa.out 0).trans rfl,(blk_cell qa.out 1).trans rfl,(blk_cell qa.out 2).trans rfl,(blk_cell qa.out 3).trans rfl,(blk_cell qa.out 4).trans rfl,(blk_cell qa.out 5).trans rfl⟩ (fun hHeld=>?_)
        clear hK K
        refine norm_ (a':=?_) ?_ ?_
        rotate_left
        ·show Act.put _ (some 40) _ = _
         simp only [Act.put,List.setIfInBounds_toArray,List.set_cons_zero,List.set_cons_succ,i64_w,i32_w]
         rfl
        refine pure_ (i:=10) (N:=some 41) (v:=?_) (a':=?_) b11q rfl rfl (any_of HT_.out (by kernel_rfl)) (fun _ _ _ h=>h) (Or.inl ⟨by rfl,?_⟩) ?_ ?_;rotate_left;(intro w';go_simp;with_reducible rfl);rotate_left;(exact z13a)
        refine pure_ (i:=11) (N:=some 42) (v:=?_) (a':=?_) b12q rfl rfl (any_of HT_.out (by kernel_rfl)) (fun _ _ _ h=>h) (Or.inl ⟨by rfl,?_⟩) ?_ ?_;rotate_left;(intro w';go_simp;with_reducible rfl);rotate_left;(exact z13a)
        refine pure_ (i:=12) (N:=some 43) (v:=?_) (a':=?_) b13q rfl rfl (any_of HT_.out (by kernel_rfl)) (fun _ _ _ h=>h) (Or.inl ⟨by rfl,?_⟩) ?_ ?_;rotate_left;(intro w';go_simp;with_reducible rfl);rotate_left;(exact z13a)
        refine pure_ (i:=13) (N:=some 44) (v:=undef) (a':=?_) b14q rfl rfl (any_of HT_.out (by kernel_rfl)) (fun _ _ _ h=>h) (Or.inr ⟨by rfl,rfl⟩) ?_ ?_
        rotate_left
        ·exact z13a
        refine pure_ (i:=14) (N:=some 45) (v:=undef) (a':=?_) b15q rfl rfl (any_of HT_.out (by kernel_rfl)) (fun _ _ _ h=>h) (Or.inr ⟨by rfl,rfl⟩) ?_ ?_
        rotate_left
        ·exact z13a
        refine pure_ (i:=15) (N:=some 46) (v:=undef) (a':=?_) b16q rfl rfl (any_of HT_.out (by kernel_rfl)) (fun _ _ _ h=>h) (Or.inr ⟨by rfl,rfl⟩) ?_ ?_
        rotate_left
        ·exact z13a
        refine pure_ (i:=16) (N:=some 47) (v:=undef) (a':=?_) b17q rfl rfl (any_of HT_.out (by kernel_rfl)) (fun _ _ _ h=>h) (Or.inr ⟨by rfl,rfl⟩) ?_ ?_
        rotate_left
        ·exact z13a
        refine pure_ (i:=17) (N:=some 48) (v:=undef) (a':=?_) b18q rfl rfl (any_of HT_.out (by kernel_rfl)) (fun _ _ _ h=>h) (Or.inr ⟨by rfl,rfl⟩) ?_ ?_
        rotate_left
        ·exact z13a
        refine pure_ (i:=18) (N:=some 49) (v:=undef) (a':=?_) b19q rfl rfl (any_of HT_.out (by kernel_rfl)) (fun _ _ _ h=>h) (Or.inr ⟨by rfl,rfl⟩) ?_ ?_
        rotate_left
        ·exact z13a
        refine pure_ (i:=19) (N:=some 50) (v:=undef) (a':=?_) b20q rfl rfl (any_of HT_.out (by kernel_rfl)) (fun _ _ _ h=>h) (Or.inr ⟨by rfl,rfl⟩) ?_ ?_
        rotate_left
        ·exact z13a
        refine pure_ (i:=20) (N:=some 51) (v:=undef) (a':=?_) b21q rfl rfl (any_of HT_.out (by kernel_rfl)) (fun _ _ _ h=>h) (Or.inr ⟨by rfl,rfl⟩) ?_ ?_
        rotate_left
        ·exact z13a
        refine pure_ (i:=21) (N:=some 52) (v:=undef) (a':=?_) b22q rfl rfl (any_of HT_.out (by kernel_rfl)) (fun _ _ _ h=>h) (Or.inr ⟨by rfl,rfl⟩) ?_ ?_
        rotate_left
        ·exact z13a
        refine pure_ (i:=22) (N:=some 53) (v:=undef) (a':=?_) b23q rfl rfl (any_of HT_.out (by kernel_rfl)) (fun _ _ _ h=>h) (Or.inr ⟨by rfl,rfl⟩) ?_ ?_
        rotate_left
        ·exact z13a
        refine pure_ (i:=23) (N:=some 54) (v:=undef) (a':=?_) b24q rfl rfl (any_of HT_.out (by kernel_rfl)) (fun _ _ _ h=>h) (Or.inr ⟨by rfl,rfl⟩) ?_ ?_
        rotate_left
        ·exact z13a
        refine pure_ (i:=24) (N:=some 55) (v:=undef) (a':=?_) b25q rfl rfl (any_of HT_.out (by kernel_rfl)) (fun _ _ _ h=>h) (Or.inr ⟨by rfl,rfl⟩) ?_ ?_
        rotate_left
        ·exact z13a
        refine pure_ (i:=25) (N:=some 56) (v:=undef) (a':=?_) b26q rfl rfl (any_of HT_.out (by kernel_rfl)) (fun _ _ _ h=>h) (Or.inr ⟨by rfl,rfl⟩) ?_ ?_
        rotate_left
        ·exact z13a
        refine pure_ (i:=26) (N:=some 57) (v:=undef) (a':=?_) b27q rfl rfl (any_of HT_.out (by kernel_rfl)) (fun _ _ _ h=>h) (Or.inr ⟨by rfl,rfl⟩) ?_ ?_
        rotate_left
        ·exact z13a
        refine pure_ (i:=27) (N:=some 58) (v:=?_) (a':=?_) b28q rfl rfl (any_of HT_.out (by kernel_rfl)) (fun _ _ _ h=>h) (Or.inl ⟨by rfl,?_⟩) ?_ ?_;rotate_left;(intro w';go_simp;with_reducible rfl);rotate_left;(exact z13a)
        refine done_ (done_of HT_.out (by kernel_rfl)) ?_
        try go_wp2
        go_ret
        exact ⟨by first|rfl|(simp [errW_none,errW_some] <;> rfl)|(simp [*,errW_none,errW_some] <;> rfl),by repeat (first|(with_reducible first|exact HB.out|apply below_alloc|apply pw_below_drewN|apply below_drew1|refine below_set ?_ vm.out|refine below_set ?_ jn.out)|exact HB.out)⟩
       subst c15
       rw [if_pos rfl] at H
       by_cases c16 : qn > 0
       rotate_left
       ·rw [if_neg c16] at H
        have qvv : decide (0 < qn) = false:=decide_eq_false c16
        clear c16
        have H':=Aside0.mk H
        clear H
        have qxj : wr.cell? ⟨qb,0,none⟩ = some (.int .i64 qp):=(blk_cell qa.out 0).trans rfl
        have qxi : wr.cell? ⟨qb,1,none⟩ = some (.int .i64 ql):=(blk_cell qa.out 1).trans rfl
        have qxh : wr.cell? ⟨qb,2,none⟩ = some (.slice wd qf.length qv):=(blk_cell qa.out 2).trans rfl
        have qxg : wr.cell? ⟨qb,3,none⟩ = some (.slice wg qc.length qu):=(blk_cell qa.out 3).trans rfl
        have qxf : wr.cell? ⟨qb,4,none⟩ = some (.slice qx qg.length qt):=(blk_cell qa.out 4).trans rfl
        have qxe : wr.cell? ⟨qb,5,none⟩ = some (.slice qz qh.length qr):=(blk_cell qa.out 5).trans rfl
        have qwl:=blk_frozen qa.out 0
        have qwk:=blk_frozen qa.out 1
        have qwj:=blk_frozen qa.out 2
        have qwi:=blk_frozen qa.out 3
        have qwh:=blk_frozen qa.out 4
        have qwg:=blk_frozen qa.out 5
        have jp : 0 ≤ (qn : Int):=of_decide_eq_true (by first|(with_reducible assumption)|assumption)
        have jo : qn < (qf.length : Int):=of_decide_eq_true (by first|(with_reducible assumption)|assumption)
        obtain ⟨ub,gm,vl,vk⟩:=at_T104 jr.out qn jp jo
        cases gm
        replace vl:=(HB.out.cell (World.block_lt_of_cell? w _ vl)).trans vl
        replace vk:=(HB.out.cell (World.block_lt_of_cell? w _ vk)).trans vk
        replace jp:=eq_true jp
        replace jo:=eq_true jo
        try go_wp2_with (first|((with_reducible refine gate_dst (N:=4) rfl ?_);refine box_event ?hg (N:=4) ?hd (cs:=#[.int .i64 0,.int .i64 0]) (t:=104) ?hr ?_;(case hd=>rfl);(case hg=>rfl);(case hr=>first|(go_simp;done)|(go_simp;rfl));intro qm hg w34 hbox hb;have n0_:=Aside0.mk (blk_below (g:=qb) (o:=.cells #[.int .i64 qp,.int .i64 ql,.slice (some ub) qf.length qv,.slice wg qc.length qu,.slice qx qg.length qt,.slice qz qh.length qr] 28 (0,0)) z13x11 hb);have n1_:=Aside0.mk (below_step z13x8 hb);have n2_:=Aside0.mk (hbox);have n3_:=Aside0.mk ((z13x7 : w.heap.size ≤ qm));have n4_:=Aside0.mk ((z13x7 : w.heap.size ≤ qm));have n5_:=Aside0.mk ((z13x4 : qb ≠ qm));have n6_:=Aside0.mk ((z13x2 : qm ≠ qb));clear qa;clear HB;have qa:=n0_;have HB:=n1_;have qo:=n2_;have qbb:=n3_;have jn:=n4_;have wb:=n5_;have ul:=n6_;clear n0_ n1_ n2_ n3_ n4_ n5_ n6_;clear hb hbox hg;have qzg:=ul.out;have qyw:=wb.out;have qxd : w34.cell? ⟨qm,0,none⟩ = some (.int .i64 0):=(blk_cell qo.out 0).trans rfl;have qxc : w34.cell? ⟨qm,1,none⟩ = some (.int .i64 0):=(blk_cell qo.out 1).trans rfl;have qwf:=blk_frozen qo.out 0;have qwe:=blk_frozen qo.out 1))
        have n0_ : Aside0 (((w34.setCell ⟨qm,0,none⟩ (.int .i64 ((rd_T104 qf qn).f0))).setCell ⟨qm,1,none⟩ (.int .i64 ((rd_T104 qf qn).f1))).heap[qb]? = some (.cells #[.int .i64 qp,.int .i64 ql,.slice (some ub) qf.length qv,.slice wg qc.length qu,.slice qx qg.length qt,.slice qz qh.length qr] 28 (0,0))):=⟨by (with_reducible repeat (first|refine blk_drewN ?_ _|refine blk_drew ?_|refine blk_alloc ?_ _));refine blk_far ?_ wb.out _;(with_reducible repeat (first|refine blk_drewN ?_ _|refine blk_drew ?_|refine blk_alloc ?_ _));refine blk_far ?_ wb.out _;(with_reducible repeat (first|refine blk_drewN ?_ _|refine blk_drew ?_|refine blk_alloc ?_ _));exact qa.out⟩
        have n1_ : Aside0 (((w34.setCell ⟨qm,0,none⟩ (.int .i64 ((rd_T104 qf qn).f0))).setCell ⟨qm,1,none⟩ (.int .i64 ((rd_T104 qf qn).f1))).heap[qm]? = some (.cells #[.int .i64 ((rd_T104 qf qn).f0),.int .i64 ((rd_T104 qf qn).f1)] 104 (0,0))):=⟨by (with_reducible repeat (first|refine blk_drewN ?_ _|refine blk_drew ?_|refine blk_alloc ?_ _));refine blk_put (cs:=#[.int .i64 ((rd_T104 qf qn).f0),.int .i64 0]) ?_ 1 _ rfl;(with_reducible repeat (first|refine blk_drewN ?_ _|refine blk_drew ?_|refine blk_alloc ?_ _));refine blk_put (cs:=#[.int .i64 0,.int .i64 0]) ?_ 0 _ rfl;(with_reducible repeat (first|refine blk_drewN ?_ _|refine blk_drew ?_|refine blk_alloc ?_ _));exact qo.out⟩
        have n2_ : Aside0 (Below w.heap.size w ((w34.setCell ⟨qm,0,none⟩ (.int .i64 ((rd_T104 qf qn).f0))).setCell ⟨qm,1,none⟩ (.int .i64 ((rd_T104 qf qn).f1)))):=⟨by repeat (first|(with_reducible first|exact HB.out|apply below_alloc|apply pw_below_drewN|apply below_drew1|refine below_set ?_ vm.out|refine below_set ?_ jn.out)|exact HB.out)⟩
        (try clear qa)
        (try clear qo)
        (try clear HB)
        generalize ((w34.setCell ⟨qm,0,none⟩ (.int .i64 ((rd_T104 qf qn).f0))).setCell ⟨qm,1,none⟩ (.int .i64 ((rd_T104 qf qn).f1))) = w37 at n0_ n1_ n2_ ⊢
        have qa:=n0_
        have qo:=n1_
        have HB:=n2_
        clear n0_ n1_ n2_
        have n0_:=Aside0.mk (blk_drew qa.out)
        have n1_:=Aside0.mk (blk_drew qo.out)
        have n2_:=Aside0.mk (below_drew1 HB.out)
        clear qa
        clear qo
        clear HB
        have qa:=n0_
        have qo:=n1_
        have HB:=n2_
        clear n0_ n1_ n2_
        refine start_ (n:=28) (S:=fun w' => w'.cell? ⟨qm,0,none⟩ = some (.int .i64 ((rd_T104 qf qn).f0)) ∧ w'.cell? ⟨qm,1,none⟩ = some (.int .i64 ((rd_T104 qf qn).f1)) ∧ w'.cell? ⟨qb,0,none⟩ = some (.int .i64 qp) ∧ w'.cell? ⟨qb,1,none⟩ = some (.int .i64 ql) ∧ w'.cell? ⟨qb,2,none⟩ = some (.slice (some ub) qf.length qv) ∧ w'.cell? ⟨qb,3,none⟩ = some (.slice wg qc.length qu) ∧ w'.cell? ⟨qb,4,none⟩ = some (.slice qx qg.length qt) ∧ w'.cell? ⟨qb,5,none⟩ = some (.slice qz qh.length qr)) (ds:=[]) b0q (by kernel_rfl) rfl rfl ⟨(blk_cell qo.out 0).trans rfl,(blk_cell qo.out 1).trans rfl,(blk_cell qa.out 0).trans rfl,(blk_cell qa.out 1).trans rfl,(blk_cell qa.out 2).trans rfl,(blk_cell qa.out 3).trans rfl,(blk_cell qa.out 4).trans rfl,(blk_cell qa.out 5).trans rfl⟩ (fun hHeld=>?_);refine with_tabW spec_ClientOk.tab7 spec_ClientOk.bits7 (fun HT_ HW_=>?_)
        generalize w37.drew = w38 at qa qo HB hHeld ⊢
        refine pure_ (i:=0) (N:=some 31) (v:=?_) (a':=?_) b1q rfl rfl (any_of HT_.out (by kernel_rfl)) (fun _ _ _ h=>h) (Or.inl ⟨by rfl,?_⟩) ?_ ?_;rotate_left;(intro w';go_simp;with_reducible rfl);rotate_left;(exact z13a)
        refine take_ (i:=1) (N:=some 32) (v:=?_) (a':=?_) b2q rfl rfl (take_ofW HT_.out HW_.out (by kernel_rfl)) (fun _ _ _ h=>h) (Or.inl ⟨by rfl,?_⟩) hHeld ?_ ?_;rotate_left;(rintro w' ⟨s0,s1,s2,s3,s4,s5,s6,s7⟩;go_simp;with_reducible rfl);rotate_left;(exact z13a)
        refine one_ (i:=2) (N:=some 33) b3q rfl rfl (one_of HT_.out (by kernel_rfl)) (by decide) (fun K hK=>?_)
        refine goes_ Try.func98 (by kernel_rfl) rfl #[.int .i64 ((rd_T104 qf qn).f0),.int .i64 4,.int .i64 6] (by rfl) rfl rfl z13x9 ?_
        with_reducible refine (spec_l6In.calls ((rd_T104 qf qn).f0) 4 6 true _ A12.out).mono ?_
        rintro e w' ⟨rfl,⟨nd,rfl⟩⟩
        refine ⟨_,rfl,?_⟩
        refine hK.out _ _ ⟨(blk_cell qo.out 0).trans rfl,(blk_cell qo.out 1).trans rfl,(blk_cell qa.out 0).trans rfl,(blk_cell qa.out 1).trans rfl,(blk_cell qa.out 2).trans rfl,(blk_cell qa.out 3).trans rfl,(blk_cell qa.out 4).trans rfl,(blk_cell qa.out 5).trans rfl⟩ (fun hHeld=>?_)
        clear hK K
        refine norm_ (a':=?_) ?_ ?_
        rotate_left
        ·show Act.put _ (some 33) _ = _
         simp only [Act.put,List.setIfInBounds_toArray,List.set_cons_zero,List.set_cons_succ,i64_w,i32_w]
         rfl
        refine pure_ (i:=3) (N:=some 34) (v:=?_) (a':=?_) b4q rfl rfl (any_of HT_.out (by kernel_rfl)) (fun _ _ _ h=>h) (Or.inl ⟨by rfl,?_⟩) ?_ ?_;rotate_left;(intro w';go_simp;with_reducible rfl);rotate_left;(exact z13a)
        refine pure_ (i:=4) (N:=some 35) (v:=?_) (a':=?_) b5q rfl rfl (any_of HT_.out (by kernel_rfl)) (fun _ _ _ h=>h) (Or.inl ⟨by rfl,?_⟩) ?_ ?_;rotate_left;(intro w';go_simp;with_reducible rfl);rotate_left;(exact z13a)
        refine pure_ (i:=5) (N:=some 36) (v:=?_) (a':=?_) b6q rfl rfl (any_of HT_.out (by kernel_rfl)) (fun _ _ _ h=>h) (Or.inl ⟨by rfl,?_⟩) ?_ ?_;rotate_left;(intro w';go_simp;with_reducible rfl);rotate_left;(exact z13a)
        refine pure_ (i:=7) (N:=some 38) (v:=?_) (a':=?_) b29q rfl rfl (any_of HT_.out (by kernel_rfl)) (fun _ _ _ h=>h) (Or.inl ⟨by rfl,?_⟩) ?_ ?_;rotate_left;(intro w';go_simp;with_reducible rfl);rotate_left;(exact z13a)
        refine take_ (i:=6) (N:=some 37) (v:=?_) (a':=?_) b8q rfl rfl (take_ofW HT_.out HW_.out (by kernel_rfl)) (fun _ _ _ h=>h) (Or.inl ⟨by rfl,?_⟩) hHeld ?_ ?_;rotate_left;(rintro w' ⟨s0,s1,s2,s3,s4,s5,s6,s7⟩;go_simp;with_reducible rfl);rotate_left;(exact z13a)
        refine take_ (i:=8) (N:=some 39) (v:=?_) (a':=?_) b9q rfl rfl (take_ofW HT_.out HW_.out (by kernel_rfl)) (fun _ _ _ h=>h) (Or.inl ⟨by rfl,?_⟩) hHeld ?_ ?_;rotate_left;(rintro w' ⟨s0,s1,s2,s3,s4,s5,s6,s7⟩;go_simp;with_reducible rfl);rotate_left;(exact z13a)
        refine one_ (i:=9) (N:=some 40) b10q rfl rfl (one_of HT_.out (by kernel_rfl)) (by decide) (fun K hK=>?_)
        refine goes_ Try.func98 (by kernel_rfl) rfl #[.int .i64 ((rd_T104 qf qn).f1),.int .i64 1,.int .i64 ql] (by rfl) rfl rfl z13x9 ?_
        with_reducible refine (spec_l6In.calls ((rd_T104 qf qn).f1) 1 ql true _ A14.out).mono ?_
        rintro e w' ⟨rfl,⟨nd,rfl⟩⟩
        refine ⟨_,rfl,?_⟩
        refine hK.out _ _ ⟨(blk_cell qo.out 0).trans rfl,(blk_cell qo.out 1).trans rfl,(blk_cell qa.out 0).trans rfl,(blk_cell qa.out 1).trans rfl,(blk_cell qa.out 2).trans rfl,(blk_cell qa.out 3).trans rfl,(blk_cell qa.out 4).trans rfl,(blk_cell qa.out 5).trans rfl⟩ (fun hHeld=>?_)
        clear hK K
        refine norm_ (a':=?_) ?_ ?_
        rotate_left
        ·show Act.put _ (some 40) _ = _
         simp only [Act.put,List.setIfInBounds_toArray,List.set_cons_zero,List.set_cons_succ,i64_w,i32_w]
         rfl
        refine pure_ (i:=10) (N:=some 41) (v:=?_) (a':=?_) b11q rfl rfl (any_of HT_.out (by kernel_rfl)) (fun _ _ _ h=>h) (Or.inl ⟨by rfl,?_⟩) ?_ ?_;rotate_left;(intro w';go_simp;with_reducible rfl);rotate_left;(exact z13a)
        refine pure_ (i:=11) (N:=some 42) (v:=?_) (a':=?_) b12q rfl rfl (any_of HT_.out (by kernel_rfl)) (fun _ _ _ h=>h) (Or.inl ⟨by rfl,?_⟩) ?_ ?_;rotate_left;(intro w';go_simp;with_reducible rfl);rotate_left;(exact z13a)
        refine pure_ (i:=12) (N:=some 43) (v:=?_) (a':=?_) b13q rfl rfl (any_of HT_.out (by kernel_rfl)) (fun _ _ _ h=>h) (Or.inl ⟨by rfl,?_⟩) ?_ ?_;rotate_left;(intro w';go_simp;with_reducible rfl);rotate_left;(exact z13a)
        refine pure_ (i:=13) (N:=some 44) (v:=?_) (a':=?_) b14q rfl rfl (any_of HT_.out (by kernel_rfl)) (fun _ _ _ h=>h) (Or.inl ⟨by rfl,?_⟩) ?_ ?_;rotate_left;(intro w';go_simp;with_reducible rfl);rotate_left;(exact z13a)
        refine pure_ (i:=14) (N:=some 45) (v:=?_) (a':=?_) b15q rfl rfl (any_of HT_.out (by kernel_rfl)) (fun _ _ _ h=>h) (Or.inl ⟨by rfl,?_⟩) ?_ ?_;rotate_left;(intro w';go_simp;with_reducible rfl);rotate_left;(exact z13a)
        refine pure_ (i:=15) (N:=some 46) (v:=?_) (a':=?_) b16q rfl rfl (any_of HT_.out (by kernel_rfl)) (fun _ _ _ h=>h) (Or.inl ⟨by rfl,?_⟩) ?_ ?_;rotate_left;(intro w';go_simp;with_reducible rfl);rotate_left;(exact z13a)
        refine pure_ (i:=16) (N:=some 47) (v:=undef) (a':=?_) b17q rfl rfl (any_of HT_.out (by kernel_rfl)) (fun _ _ _ h=>h) (Or.inr ⟨by rfl,rfl⟩) ?_ ?_
        rotate_left
        ·exact z13a
        refine pure_ (i:=17) (N:=some 48) (v:=undef) (a':=?_) b18q rfl rfl (any_of HT_.out (by kernel_rfl)) (fun _ _ _ h=>h) (Or.inr ⟨by rfl,rfl⟩) ?_ ?_
        rotate_left
        ·exact z13a
        refine pure_ (i:=18) (N:=some 49) (v:=undef) (a':=?_) b19q rfl rfl (any_of HT_.out (by kernel_rfl)) (fun _ _ _ h=>h) (Or.inr ⟨by rfl,rfl⟩) ?_ ?_
        rotate_left
        ·exact z13a
        refine pure_ (i:=19) (N:=some 50) (v:=undef) (a':=?_) b20q rfl rfl (any_of HT_.out (by kernel_rfl)) (fun _ _ _ h=>h) (Or.inr ⟨by rfl,rfl⟩) ?_ ?_
        rotate_left
        ·exact z13a
        refine pure_ (i:=20) (N:=some 51) (v:=undef) (a':=?_) b21q rfl rfl (any_of HT_.out (by kernel_rfl)) (fun _ _ _ h=>h) (Or.inr ⟨by rfl,rfl⟩) ?_ ?_
        rotate_left
        ·exact z13a
        refine pure_ (i:=21) (N:=some 52) (v:=undef) (a':=?_) b22q rfl rfl (any_of HT_.out (by kernel_rfl)) (fun _ _ _ h=>h) (Or.inr ⟨by rfl,rfl⟩) ?_ ?_
        rotate_left
        ·exact z13a
        refine pure_ (i:=22) (N:=some 53) (v:=undef) (a':=?_) b23q rfl rfl (any_of HT_.out (by kernel_rfl)) (fun _ _ _ h=>h) (Or.inr ⟨by rfl,rfl⟩) ?_ ?_
        rotate_left
        ·exact z13a
        refine pure_ (i:=23) (N:=some 54) (v:=undef) (a':=?_) b24q rfl rfl (any_of HT_.out (by kernel_rfl)) (fun _ _ _ h=>h) (Or.inr ⟨by rfl,rfl⟩) ?_ ?_
        rotate_left
        ·exact z13a
        refine pure_ (i:=24) (N:=some 55) (v:=undef) (a':=?_) b25q rfl rfl (any_of HT_.out (by kernel_rfl)) (fun _ _ _ h=>h) (Or.inr ⟨by rfl,rfl⟩) ?_ ?_
        rotate_left
        ·exact z13a
        refine pure_ (i:=25) (N:=some 56) (v:=undef) (a':=?_) b26q rfl rfl (any_of HT_.out (by kernel_rfl)) (fun _ _ _ h=>h) (Or.inr ⟨by rfl,rfl⟩) ?_ ?_
        rotate_left
        ·exact z13a
        refine pure_ (i:=26) (N:=some 57) (v:=?_) (a':=?_) b27q rfl rfl (any_of HT_.out (by kernel_rfl)) (fun _ _ _ h=>h) (Or.inl ⟨by rfl,?_⟩) ?_ ?_;rotate_left;(intro w';go_simp;with_reducible rfl);rotate_left;(exact z13a)
        refine pure_ (i:=27) (N:=some 58) (v:=?_) (a':=?_) b28q rfl rfl (any_of HT_.out (by kernel_rfl)) (fun _ _ _ h=>h) (Or.inl ⟨by rfl,?_⟩) ?_ ?_;rotate_left;(intro w';go_simp;with_reducible rfl);rotate_left;(exact z13a)
        refine done_ (done_of HT_.out (by kernel_rfl)) ?_
        try go_wp2
        go_roundg k2
        case measure=>have:=HJ1.out;have:=HK2.out;omega
        case rel=>exact ⟨(wrap64 (qn + 1)),(by first|rfl|(simp;done)|(simp [*];done)),H',⟨by have:=HJ1.out;have:=HK2.out;omega⟩,⟨by (with_reducible repeat (first|refine blk_drewN ?_ _|refine blk_drew ?_|refine blk_alloc ?_ _));exact qa.out⟩,⟨by repeat (first|(with_reducible first|exact HB.out|apply below_alloc|apply pw_below_drewN|apply below_drew1|refine below_set ?_ vm.out|refine below_set ?_ jn.out)|exact HB.out)⟩⟩
       rw [if_pos c16] at H
       have qvv : decide (0 < qn) = true:=decide_eq_true c16
       clear c16
       obtain ⟨jc,gi⟩ : ∃ j_ : Int,(wrap64 (qn - 1)) = j_:=⟨_,rfl⟩
       replace H : (if 0 ≤ (jc) then (if (jc) < (qf.length : Int) then (if ((rd_T104 qf (jc)).f1) ≥ ((rd_T104 qf qn).f1) then (some false) else (spec_ClientOk.l0 k2 (wrap64 (qn + 1)) qp ql qf qc qg qh)) else (none)) else (none)) = some r:=by first|(rw [gi] at H;exact H)|(simp only [gi] at H ⊢; exact H)
       (try rw [gi] at A12)
       (try rw [gi] at A14)
       have hji17w : (IntKind.i64.wrap (qn - 1)) = jc:=(i64_w _).trans gi
       by_cases c18 : 0 ≤ (jc)
       rotate_left
       ·rw [if_neg c18] at H
        exact absurd H (by simp)
       rw [if_pos c18] at H
       have qzk : decide (0 ≤ (jc)) = true:=decide_eq_true c18
       clear c18
       by_cases c19 : (jc) < (qf.length : Int)
       rotate_left
       ·rw [if_neg c19] at H
        exact absurd H (by simp)
       rw [if_pos c19] at H
       have qzj : decide ((jc) < (qf.length : Int)) = true:=decide_eq_true c19
       clear c19
       by_cases c20 : ((rd_T104 qf (jc)).f1) ≥ ((rd_T104 qf qn).f1)
       ·rw [if_pos c20] at H
        have qvu : decide (((rd_T104 qf qn).f1) ≤ ((rd_T104 qf (jc)).f1)) = true:=decide_eq_true c20
        clear c20
        obtain rfl:=Option.some.inj H
        have qxz : wr.cell? ⟨qb,0,none⟩ = some (.int .i64 qp):=(blk_cell qa.out 0).trans rfl
        have qxy : wr.cell? ⟨qb,1,none⟩ = some (.int .i64 ql):=(blk_cell qa.out 1).trans rfl
        have qxx : wr.cell? ⟨qb,2,none⟩ = some (.slice wd qf.length qv):=(blk_cell qa.out 2).trans rfl
        have qxw : wr.cell? ⟨qb,3,none⟩ = some (.slice wg qc.length qu):=(blk_cell qa.out 3).trans rfl
        have qxv : wr.cell? ⟨qb,4,none⟩ = some (.slice qx qg.length qt):=(blk_cell qa.out 4).trans rfl
        have qxu : wr.cell? ⟨qb,5,none⟩ = some (.slice qz qh.length qr):=(blk_cell qa.out 5).trans rfl
        have qxb:=blk_frozen qa.out 0
        have qxa:=blk_frozen qa.out 1
        have qwz:=blk_frozen qa.out 2
        have qwy:=blk_frozen qa.out 3
        have qwx:=blk_frozen qa.out 4
        have qww:=blk_frozen qa.out 5
        have jp : 0 ≤ (qn : Int):=of_decide_eq_true (by first|(with_reducible assumption)|assumption)
        have jo : qn < (qf.length : Int):=of_decide_eq_true (by first|(with_reducible assumption)|assumption)
        obtain ⟨ub,gm,vl,vk⟩:=at_T104 jr.out qn jp jo
        cases gm
        replace vl:=(HB.out.cell (World.block_lt_of_cell? w _ vl)).trans vl
        replace vk:=(HB.out.cell (World.block_lt_of_cell? w _ vk)).trans vk
        replace jp:=eq_true jp
        replace jo:=eq_true jo
        try go_wp2_with (first|((with_reducible refine gate_dst (N:=4) rfl ?_);refine box_event ?hg (N:=4) ?hd (cs:=#[.int .i64 0,.int .i64 0]) (t:=104) ?hr ?_;(case hd=>rfl);(case hg=>rfl);(case hr=>first|(go_simp;done)|(go_simp;rfl));intro qm hg w22 hbox hb;have n0_:=Aside0.mk (blk_below (g:=qb) (o:=.cells #[.int .i64 qp,.int .i64 ql,.slice (some ub) qf.length qv,.slice wg qc.length qu,.slice qx qg.length qt,.slice qz qh.length qr] 28 (0,0)) z13x11 hb);have n1_:=Aside0.mk (below_step z13x8 hb);have n2_:=Aside0.mk (hbox);have n3_:=Aside0.mk ((z13x7 : w.heap.size ≤ qm));have n4_:=Aside0.mk ((z13x7 : w.heap.size ≤ qm));have n5_:=Aside0.mk ((z13x4 : qb ≠ qm));have n6_:=Aside0.mk ((z13x2 : qm ≠ qb));clear qa;clear HB;have qa:=n0_;have HB:=n1_;have qo:=n2_;have qbb:=n3_;have jn:=n4_;have wb:=n5_;have ul:=n6_;clear n0_ n1_ n2_ n3_ n4_ n5_ n6_;clear hb hbox hg;have qzi:=ul.out;have qyy:=wb.out;have qxt : w22.cell? ⟨qm,0,none⟩ = some (.int .i64 0):=(blk_cell qo.out 0).trans rfl;have qxs : w22.cell? ⟨qm,1,none⟩ = some (.int .i64 0):=(blk_cell qo.out 1).trans rfl;have qwv:=blk_frozen qo.out 0;have qwu:=blk_frozen qo.out 1))
        have n0_ : Aside0 (((w22.setCell ⟨qm,0,none⟩ (.int .i64 ((rd_T104 qf qn).f0))).setCell ⟨qm,1,none⟩ (.int .i64 ((rd_T104 qf qn).f1))).heap[qb]? = some (.cells #[.int .i64 qp,.int .i64 ql,.slice (some ub) qf.length qv,.slice wg qc.length qu,.slice qx qg.length qt,.slice qz qh.length qr] 28 (0,0))):=⟨by (with_reducible repeat (first|refine blk_drewN ?_ _|refine blk_drew ?_|refine blk_alloc ?_ _));refine blk_far ?_ wb.out _;(with_reducible repeat (first|refine blk_drewN ?_ _|refine blk_drew ?_|refine blk_alloc ?_ _));refine blk_far ?_ wb.out _;(with_reducible repeat (first|refine blk_drewN ?_ _|refine blk_drew ?_|refine blk_alloc ?_ _));exact qa.out⟩
        have n1_ : Aside0 (((w22.setCell ⟨qm,0,none⟩ (.int .i64 ((rd_T104 qf qn).f0))).setCell ⟨qm,1,none⟩ (.int .i64 ((rd_T104 qf qn).f1))).heap[qm]? = some (.cells #[.int .i64 ((rd_T104 qf qn).f0),.int .i64 ((rd_T104 qf qn).f1)] 104 (0,0))):=⟨by (with_reducible repeat (first|refine blk_drewN ?_ _|refine blk_drew ?_|refine blk_alloc ?_ _));refine blk_put (cs:=#[.int .i64 ((rd_T104 qf qn).f0),.int .i64 0]) ?_ 1 _ rfl;(with_reducible repeat (first|refine blk_drewN ?_ _|refine blk_drew ?_|refine blk_alloc ?_ _));refine blk_put (cs:=#[.int .i64 0,.int .i64 0]) ?_ 0 _ rfl;(with_reducible repeat (first|refine blk_drewN ?_ _|refine blk_drew ?_|refine blk_alloc ?_ _));exact qo.out⟩
        have n2_ : Aside0 (Below w.heap.size w ((w22.setCell ⟨qm,0,none⟩ (.int .i64 ((rd_T104 qf qn).f0))).setCell ⟨qm,1,none⟩ (.int .i64 ((rd_T104 qf qn).f1)))):=⟨by repeat (first|(with_reducible first|exact HB.out|apply below_alloc|apply pw_below_drewN|apply below_drew1|refine below_set ?_ vm.out|refine below_set ?_ jn.out)|exact HB.out)⟩
        (try clear qa)
        (try clear qo)
        (try clear HB)
        generalize ((w22.setCell ⟨qm,0,none⟩ (.int .i64 ((rd_T104 qf qn).f0))).setCell ⟨qm,1,none⟩ (.int .i64 ((rd_T104 qf qn).f1))) = w25 at n0_ n1_ n2_ ⊢
        have qa:=n0_
        have qo:=n1_
        have HB:=n2_
        clear n0_ n1_ n2_
        have n0_:=Aside0.mk (blk_drew qa.out)
        have n1_:=Aside0.mk (blk_drew qo.out)
        have n2_:=Aside0.mk (below_drew1 HB.out)
        clear qa
        clear qo
        clear HB
        have qa:=n0_
        have qo:=n1_
        have HB:=n2_
        clear n0_ n1_ n2_
        have pb : 0 ≤ ((jc) : Int):=of_decide_eq_true (by first|(with_reducible assumption)|assumption)
        have gx : (jc) < (qf.length : Int):=of_decide_eq_true (by first|(with_reducible assumption)|assumption)
        obtain ⟨qfy,qsv,ja,uz⟩:=at_T104 jr.out (jc) pb gx
        have uj:=uz
        have uk:=ja
        obtain rfl : ub = qfy:=(by injection qsv)
        replace ja:=(HB.out.cell (World.block_lt_of_cell? w _ ja)).trans ja
        replace uz:=(HB.out.cell (World.block_lt_of_cell? w _ uz)).trans uz
        replace pb:=eq_true pb
        replace gx:=eq_true gx
        refine start_ (n:=28) (S:=fun w' => w'.cell? ⟨qm,0,none⟩ = some (.int .i64 ((rd_T104 qf qn).f0)) ∧ w'.cell? ⟨qm,1,none⟩ = some (.int .i64 ((rd_T104 qf qn).f1)) ∧ w'.cell? ⟨qb,0,none⟩ = some (.int .i64 qp) ∧ w'.cell? ⟨qb,1,none⟩ = some (.int .i64 ql) ∧ w'.cell? ⟨qb,2,none⟩ = some (.slice (some ub) qf.length qv) ∧ w'.cell? ⟨qb,3,none⟩ = some (.slice wg qc.length qu) ∧ w'.cell? ⟨qb,4,none⟩ = some (.slice qx qg.length qt) ∧ w'.cell? ⟨qb,5,none⟩ = some (.slice qz qh.length qr) ∧ w'.cell? (ub.add (((jc)).toNat * 2)) = some (.int .i64 ((rd_T104 qf (jc)).f0)) ∧ w'.cell? ⟨(ub.add (((jc)).toNat * 2)).block,(ub.add (((jc)).toNat * 2)).off + 1,none⟩ = some (.int .i64 ((rd_T104 qf (jc)).f1))) (ds:=[]) b0q (by kernel_rfl) rfl rfl ⟨(blk_cell qo.out 0).trans rfl,(blk_cell qo.out 1).trans rfl,(blk_cell qa.out 0).trans rfl,(blk_cell qa.out 1).trans rfl,(blk_cell qa.out 2).trans rfl,(blk_cell qa.out 3).trans rfl,(blk_cell qa.out 4).trans rfl,(blk_cell qa.out 5).trans rfl,((HB.out.cell (World.block_lt_of_cell? w _ uk)).trans uk),((HB.out.cell (World.block_lt_of_cell? w _ uj)).trans uj)⟩ (fun hHeld=>?_);refine with_tabW spec_ClientOk.tab7 spec_ClientOk.bits7 (fun HT_ HW_=>?_)
        generalize w25.drew = w26 at qa qo HB ja uz hHeld ⊢
        refine pure_ (i:=0) (N:=some 31) (v:=?_) (a':=?_) b1q rfl rfl (any_of HT_.out (by kernel_rfl)) (fun _ _ _ h=>h) (Or.inl ⟨by rfl,?_⟩) ?_ ?_;rotate_left;(intro w';go_simp;with_reducible rfl);rotate_left;(exact z13a)
        refine take_ (i:=1) (N:=some 32) (v:=?_) (a':=?_) b2q rfl rfl (take_ofW HT_.out HW_.out (by kernel_rfl)) (fun _ _ _ h=>h) (Or.inl ⟨by rfl,?_⟩) hHeld ?_ ?_;rotate_left;(rintro w' ⟨s0,s1,s2,s3,s4,s5,s6,s7,s8,s9⟩;go_simp;with_reducible rfl);rotate_left;(exact z13a)
        refine one_ (i:=2) (N:=some 33) b3q rfl rfl (one_of HT_.out (by kernel_rfl)) (by decide) (fun K hK=>?_)
        refine goes_ Try.func98 (by kernel_rfl) rfl #[.int .i64 ((rd_T104 qf qn).f0),.int .i64 4,.int .i64 6] (by rfl) rfl rfl z13x9 ?_
        with_reducible refine (spec_l6In.calls ((rd_T104 qf qn).f0) 4 6 true _ A12.out).mono ?_
        rintro e w' ⟨rfl,⟨nd,rfl⟩⟩
        refine ⟨_,rfl,?_⟩
        refine hK.out _ _ ⟨(blk_cell qo.out 0).trans rfl,(blk_cell qo.out 1).trans rfl,(blk_cell qa.out 0).trans rfl,(blk_cell qa.out 1).trans rfl,(blk_cell qa.out 2).trans rfl,(blk_cell qa.out 3).trans rfl,(blk_cell qa.out 4).trans rfl,(blk_cell qa.out 5).trans rfl,((HB.out.cell (World.block_lt_of_cell? w _ uk)).trans uk),((HB.out.cell (World.block_lt_of_cell? w _ uj)).trans uj)⟩ (fun hHeld=>?_)
        clear hK K
        refine norm_ (a':=?_) ?_ ?_
        rotate_left
        ·show Act.put _ (some 33) _ = _
         simp only [Act.put,List.setIfInBounds_toArray,List.set_cons_zero,List.set_cons_succ,i64_w,i32_w]
         rfl
        refine pure_ (i:=3) (N:=some 34) (v:=?_) (a':=?_) b4q rfl rfl (any_of HT_.out (by kernel_rfl)) (fun _ _ _ h=>h) (Or.inl ⟨by rfl,?_⟩) ?_ ?_;rotate_left;(intro w';go_simp;with_reducible rfl);rotate_left;(exact z13a)
        refine pure_ (i:=4) (N:=some 35) (v:=?_) (a':=?_) b5q rfl rfl (any_of HT_.out (by kernel_rfl)) (fun _ _ _ h=>h) (Or.inl ⟨by rfl,?_⟩) ?_ ?_;rotate_left;(intro w';go_simp;with_reducible rfl);rotate_left;(exact z13a)
        refine pure_ (i:=5) (N:=some 36) (v:=?_) (a':=?_) b6q rfl rfl (any_of HT_.out (by kernel_rfl)) (fun _ _ _ h=>h) (Or.inl ⟨by rfl,?_⟩) ?_ ?_;rotate_left;(intro w';go_simp;with_reducible rfl);rotate_left;(exact z13a)
        refine pure_ (i:=7) (N:=some 38) (v:=?_) (a':=?_) b29q rfl rfl (any_of HT_.out (by kernel_rfl)) (fun _ _ _ h=>h) (Or.inl ⟨by rfl,?_⟩) ?_ ?_;rotate_left;(intro w';go_simp;with_reducible rfl);rotate_left;(exact z13a)
        refine take_ (i:=6) (N:=some 37) (v:=?_) (a':=?_) b8q rfl rfl (take_ofW HT_.out HW_.out (by kernel_rfl)) (fun _ _ _ h=>h) (Or.inl ⟨by rfl,?_⟩) hHeld ?_ ?_;rotate_left;(rintro w' ⟨s0,s1,s2,s3,s4,s5,s6,s7,s8,s9⟩;go_simp;with_reducible rfl);rotate_left;(exact z13a)
        refine take_ (i:=8) (N:=some 39) (v:=?_) (a':=?_) b9q rfl rfl (take_ofW HT_.out HW_.out (by kernel_rfl)) (fun _ _ _ h=>h) (Or.inl ⟨by rfl,?_⟩) hHeld ?_ ?_;rotate_left;(rintro w' ⟨s0,s1,s2,s3,s4,s5,s6,s7,s8,s9⟩;go_simp;with_reducible rfl);rotate_left;(exact z13a)
        refine one_ (i:=9) (N:=some 40) b10q rfl rfl (one_of HT_.out (by kernel_rfl)) (by decide) (fun K hK=>?_)
        refine goes_ Try.func98 (by kernel_rfl) rfl #[.int .i64 ((rd_T104 qf qn).f1),.int .i64 1,.int .i64 ql] (by rfl) rfl rfl z13x9 ?_
        with_reducible refine (spec_l6In.calls ((rd_T104 qf qn).f1) 1 ql true _ A14.out).mono ?_
        rintro e w' ⟨rfl,⟨nd,rfl⟩⟩
        refine ⟨_,rfl,?_⟩
        refine hK.out _ _ ⟨(blk_cell qo.out 0).trans rfl,(blk_cell qo.out 1).trans rfl,(blk_cell qa.out 0).trans rfl,(blk_cell qa.out 1).trans rfl,(blk_cell qa.out 2).trans rfl,(blk_cell qa.out 3).trans rfl,(blk_cell qa.out 4).trans rfl,(blk_cell qa.out 5).trans rfl,((HB.out.cell (World.block_lt_of_cell? w _ uk)).trans uk),((HB.out.cell (World.block_lt_of_cell? w _ uj)).trans uj)⟩ (fun hHeld=>?_)
        clear hK K
        refine norm_ (a':=?_) ?_ ?_
        rotate_left
        ·show Act.put _ (some 40) _ = _
         simp only [Act.put,List.setIfInBounds_toArray,List.set_cons_zero,List.set_cons_succ,i64_w,i32_w]
         rfl
        refine pure_ (i:=10) (N:=some 41) (v:=?_) (a':=?_) b11q rfl rfl (any_of HT_.out (by kernel_rfl)) (fun _ _ _ h=>h) (Or.inl ⟨by rfl,?_⟩) ?_ ?_;rotate_left;(intro w';go_simp;with_reducible rfl);rotate_left;(exact z13a)
        refine pure_ (i:=11) (N:=some 42) (v:=?_) (a':=?_) b12q rfl rfl (any_of HT_.out (by kernel_rfl)) (fun _ _ _ h=>h) (Or.inl ⟨by rfl,?_⟩) ?_ ?_;rotate_left;(intro w';go_simp;with_reducible rfl);rotate_left;(exact z13a)
        refine pure_ (i:=12) (N:=some 43) (v:=?_) (a':=?_) b13q rfl rfl (any_of HT_.out (by kernel_rfl)) (fun _ _ _ h=>h) (Or.inl ⟨by rfl,?_⟩) ?_ ?_;rotate_left;(intro w';go_simp;with_reducible rfl);rotate_left;(exact z13a)
        refine pure_ (i:=13) (N:=some 44) (v:=?_) (a':=?_) b14q rfl rfl (any_of HT_.out (by kernel_rfl)) (fun _ _ _ h=>h) (Or.inl ⟨by rfl,?_⟩) ?_ ?_;rotate_left;(intro w';go_simp;with_reducible rfl);rotate_left;(exact z13a)
        refine pure_ (i:=14) (N:=some 45) (v:=?_) (a':=?_) b15q rfl rfl (any_of HT_.out (by kernel_rfl)) (fun _ _ _ h=>h) (Or.inl ⟨by rfl,?_⟩) ?_ ?_;rotate_left;(intro w';go_simp;with_reducible rfl);rotate_left;(exact z13a)
        refine pure_ (i:=15) (N:=some 46) (v:=?_) (a':=?_) b16q rfl rfl (any_of HT_.out (by kernel_rfl)) (fun _ _ _ h=>h) (Or.inl ⟨by rfl,?_⟩) ?_ ?_;rotate_left;(intro w';go_simp;with_reducible rfl);rotate_left;(exact z13a)
        refine pure_ (i:=16) (N:=some 47) (v:=?_) (a':=?_) b17q rfl rfl (any_of HT_.out (by kernel_rfl)) (fun _ _ _ h=>h) (Or.inl ⟨by rfl,?_⟩) ?_ ?_;rotate_left;(intro w';go_simp;with_reducible rfl);rotate_left;(exact z13a)
        refine pure_ (i:=18) (N:=some 49) (v:=?_) (a':=?_) b30q rfl rfl (any_of HT_.out (by kernel_rfl)) (fun _ _ _ h=>h) (Or.inl ⟨by rfl,?_⟩) ?_ ?_;rotate_left;(intro w';go_simp;with_reducible rfl);rotate_left;(exact z13a)
        refine pure_ (i:=19) (N:=some 50) (v:=?_) (a':=?_) b31q rfl rfl (any_of HT_.out (by kernel_rfl)) (fun _ _ _ h=>h) (Or.inl ⟨by rfl,?_⟩) ?_ ?_;rotate_left;(intro w';go_simp;with_reducible rfl);rotate_left;(exact z13a)
        refine pure_ (i:=23) (N:=some 54) (v:=?_) (a':=?_) b32q rfl rfl (any_of HT_.out (by kernel_rfl)) (fun _ _ _ h=>h) (Or.inl ⟨by rfl,?_⟩) ?_ ?_;rotate_left;(intro w';go_simp;with_reducible rfl);rotate_left;(exact z13a)
        refine take_ (i:=17) (N:=some 48) (v:=?_) (a':=?_) b33q rfl rfl (take_ofW HT_.out HW_.out (by kernel_rfl)) (fun _ _ _ h=>h) (Or.inl ⟨by rfl,?_⟩) hHeld ?_ ?_;rotate_left;(rintro w' ⟨s0,s1,s2,s3,s4,s5,s6,s7,s8,s9⟩;go_simp;with_reducible rfl);rotate_left;(exact z13a)
        refine pure_ (i:=20) (N:=some 51) (v:=?_) (a':=?_) b34q rfl rfl (any_of HT_.out (by kernel_rfl)) (fun _ _ _ h=>h) (Or.inl ⟨by rfl,?_⟩) ?_ ?_;rotate_left;(intro w';go_simp;with_reducible rfl);rotate_left;(exact z13a)
        refine pure_ (i:=21) (N:=some 52) (v:=?_) (a':=?_) b35q rfl rfl (any_of HT_.out (by kernel_rfl)) (fun _ _ _ h=>h) (Or.inl ⟨by rfl,?_⟩) ?_ ?_;rotate_left;(intro w';go_simp;with_reducible rfl);rotate_left;(exact z13a)
        refine take_ (i:=22) (N:=some 53) (v:=?_) (a':=?_) b24q rfl rfl (take_ofW HT_.out HW_.out (by kernel_rfl)) (fun _ _ _ h=>h) (Or.inl ⟨by rfl,?_⟩) hHeld ?_ ?_;rotate_left;(rintro w' ⟨s0,s1,s2,s3,s4,s5,s6,s7,s8,s9⟩;go_simp;with_reducible rfl);rotate_left;(exact z13a)
        refine take_ (i:=24) (N:=some 55) (v:=?_) (a':=?_) b25q rfl rfl (take_ofW HT_.out HW_.out (by kernel_rfl)) (fun _ _ _ h=>h) (Or.inl ⟨by rfl,?_⟩) hHeld ?_ ?_;rotate_left;(rintro w' ⟨s0,s1,s2,s3,s4,s5,s6,s7,s8,s9⟩;go_simp;with_reducible rfl);rotate_left;(exact z13a)
        refine pure_ (i:=25) (N:=some 56) (v:=?_) (a':=?_) b26q rfl rfl (any_of HT_.out (by kernel_rfl)) (fun _ _ _ h=>h) (Or.inl ⟨by rfl,?_⟩) ?_ ?_;rotate_left;(intro w';go_simp;with_reducible rfl);rotate_left;(exact z13a)
        refine pure_ (i:=26) (N:=some 57) (v:=?_) (a':=?_) b27q rfl rfl (any_of HT_.out (by kernel_rfl)) (fun _ _ _ h=>h) (Or.inl ⟨by rfl,?_⟩) ?_ ?_;rotate_left;(intro w';go_simp;with_reducible rfl);rotate_left;(exact z13a)
        refine pure_ (i:=27) (N:=some 58) (v:=?_) (a':=?_) b28q rfl rfl (any_of HT_.out (by kernel_rfl)) (fun _ _ _ h=>h) (Or.inl ⟨by rfl,?_⟩) ?_ ?_;rotate_left;(intro w';go_simp;with_reducible rfl);rotate_left;(exact z13a)
        refine done_ (done_of HT_.out (by kernel_rfl)) ?_
        try go_wp2
        go_ret
        exact ⟨by first|rfl|(simp [errW_none,errW_some] <;> rfl)|(simp only [← gi];first|rfl|(simp [errW_none,errW_some] <;> rfl))|(simp [*,errW_none,errW_some] <;> rfl),by repeat (first|(with_reducible first|exact HB.out|apply below_alloc|apply pw_below_drewN|apply below_drew1|refine below_set ?_ vm.out|refine below_set ?_ jn.out)|exact HB.out)⟩
       ·rw [if_neg c20] at H
        have qvu : decide (((rd_T104 qf qn).f1) ≤ ((rd_T104 qf (jc)).f1)) = false:=decide_eq_false c20
        clear c20
        have H':=Aside0.mk H
        clear H
        have qxr : wr.cell? ⟨qb,0,none⟩ = some (.int .i64 qp):=(blk_cell qa.out 0).trans rfl
        have qxq : wr.cell? ⟨qb,1,none⟩ = some (.int .i64 ql):=(blk_cell qa.out 1).trans rfl
        have qxp : wr.cell? ⟨qb,2,none⟩ = some (.slice wd qf.length qv):=(blk_cell qa.out 2).trans rfl
        have qxo : wr.cell? ⟨qb,3,none⟩ = some (.slice wg qc.length qu):=(blk_cell qa.out 3).trans rfl
        have qxn : wr.cell? ⟨qb,4,none⟩ = some (.slice qx qg.length qt):=(blk_cell qa.out 4).trans rfl
        have qxm : wr.cell? ⟨qb,5,none⟩ = some (.slice qz qh.length qr):=(blk_cell qa.out 5).trans rfl
        have qwt:=blk_frozen qa.out 0
        have qws:=blk_frozen qa.out 1
        have qwr:=blk_frozen qa.out 2
        have qwq:=blk_frozen qa.out 3
        have qwp:=blk_frozen qa.out 4
        have qwo:=blk_frozen qa.out 5
        have jp : 0 ≤ (qn : Int):=of_decide_eq_true (by first|(with_reducible assumption)|assumption)
        have jo : qn < (qf.length : Int):=of_decide_eq_true (by first|(with_reducible assumption)|assumption)
        obtain ⟨ub,gm,vl,vk⟩:=at_T104 jr.out qn jp jo
        cases gm
        replace vl:=(HB.out.cell (World.block_lt_of_cell? w _ vl)).trans vl
        replace vk:=(HB.out.cell (World.block_lt_of_cell? w _ vk)).trans vk
        replace jp:=eq_true jp
        replace jo:=eq_true jo
        try go_wp2_with (first|((with_reducible refine gate_dst (N:=4) rfl ?_);refine box_event ?hg (N:=4) ?hd (cs:=#[.int .i64 0,.int .i64 0]) (t:=104) ?hr ?_;(case hd=>rfl);(case hg=>rfl);(case hr=>first|(go_simp;done)|(go_simp;rfl));intro qm hg w28 hbox hb;have n0_:=Aside0.mk (blk_below (g:=qb) (o:=.cells #[.int .i64 qp,.int .i64 ql,.slice (some ub) qf.length qv,.slice wg qc.length qu,.slice qx qg.length qt,.slice qz qh.length qr] 28 (0,0)) z13x11 hb);have n1_:=Aside0.mk (below_step z13x8 hb);have n2_:=Aside0.mk (hbox);have n3_:=Aside0.mk ((z13x7 : w.heap.size ≤ qm));have n4_:=Aside0.mk ((z13x7 : w.heap.size ≤ qm));have n5_:=Aside0.mk ((z13x4 : qb ≠ qm));have n6_:=Aside0.mk ((z13x2 : qm ≠ qb));clear qa;clear HB;have qa:=n0_;have HB:=n1_;have qo:=n2_;have qbb:=n3_;have jn:=n4_;have wb:=n5_;have ul:=n6_;clear n0_ n1_ n2_ n3_ n4_ n5_ n6_;clear hb hbox hg;have qzh:=ul.out;have qyx:=wb.out;have qxl : w28.cell? ⟨qm,0,none⟩ = some (.int .i64 0):=(blk_cell qo.out 0).trans rfl;have qxk : w28.cell? ⟨qm,1,none⟩ = some (.int .i64 0):=(blk_cell qo.out 1).trans rfl;have qwn:=blk_frozen qo.out 0;have qwm:=blk_frozen qo.out 1))
        have n0_ : Aside0 (((w28.setCell ⟨qm,0,none⟩ (.int .i64 ((rd_T104 qf qn).f0))).setCell ⟨qm,1,none⟩ (.int .i64 ((rd_T104 qf qn).f1))).heap[qb]? = some (.cells #[.int .i64 qp,.int .i64 ql,.slice (some ub) qf.length qv,.slice wg qc.length qu,.slice qx qg.length qt,.slice qz qh.length qr] 28 (0,0))):=⟨by (with_reducible repeat (first|refine blk_drewN ?_ _|refine blk_drew ?_|refine blk_alloc ?_ _));refine blk_far ?_ wb.out _;(with_reducible repeat (first|refine blk_drewN ?_ _|refine blk_drew ?_|refine blk_alloc ?_ _));refine blk_far ?_ wb.out _;(with_reducible repeat (first|refine blk_drewN ?_ _|refine blk_drew ?_|refine blk_alloc ?_ _));exact qa.out⟩
        have n1_ : Aside0 (((w28.setCell ⟨qm,0,none⟩ (.int .i64 ((rd_T104 qf qn).f0))).setCell ⟨qm,1,none⟩ (.int .i64 ((rd_T104 qf qn).f1))).heap[qm]? = some (.cells #[.int .i64 ((rd_T104 qf qn).f0),.int .i64 ((rd_T104 qf qn).f1)] 104 (0,0))):=⟨by (with_reducible repeat (first|refine blk_drewN ?_ _|refine blk_drew ?_|refine blk_alloc ?_ _));refine blk_put (cs:=#[.int .i64 ((rd_T104 qf qn).f0),.int .i64 0]) ?_ 1 _ rfl;(with_reducible repeat (first|refine blk_drewN ?_ _|refine blk_drew ?_|refine blk_alloc ?_ _));refine blk_put (cs:=#[.int .i64 0,.int .i64 0]) ?_ 0 _ rfl;(with_reducible repeat (first|refine blk_drewN ?_ _|refine blk_drew ?_|refine blk_alloc ?_ _));exact qo.out⟩
        have n2_ : Aside0 (Below w.heap.size w ((w28.setCell ⟨qm,0,none⟩ (.int .i64 ((rd_T104 qf qn).f0))).setCell ⟨qm,1,none⟩ (.int .i64 ((rd_T104 qf qn).f1)))):=⟨by repeat (first|(with_reducible first|exact HB.out|apply below_alloc|apply pw_below_drewN|apply below_drew1|refine below_set ?_ vm.out|refine below_set ?_ jn.out)|exact HB.out)⟩
        (try clear qa)
        (try clear qo)
        (try clear HB)
        generalize ((w28.setCell ⟨qm,0,none⟩ (.int .i64 ((rd_T104 qf qn).f0))).setCell ⟨qm,1,none⟩ (.int .i64 ((rd_T104 qf qn).f1))) = w31 at n0_ n1_ n2_ ⊢
        have qa:=n0_
        have qo:=n1_
        have HB:=n2_
        clear n0_ n1_ n2_
        have n0_:=Aside0.mk (blk_drew qa.out)
        have n1_:=Aside0.mk (blk_drew qo.out)
        have n2_:=Aside0.mk (below_drew1 HB.out)
        clear qa
        clear qo
        clear HB
        have qa:=n0_
        have qo:=n1_
        have HB:=n2_
        clear n0_ n1_ n2_
        have pb : 0 ≤ ((jc) : Int):=of_decide_eq_true (by first|(with_reducible assumption)|assumption)
        have gx : (jc) < (qf.length : Int):=of_decide_eq_true (by first|(with_reducible assumption)|assumption)
        obtain ⟨qfy,qsv,ja,uz⟩:=at_T104 jr.out (jc) pb gx
        have uj:=uz
        have uk:=ja
        obtain rfl : ub = qfy:=(by injection qsv)
        replace ja:=(HB.out.cell (World.block_lt_of_cell? w _ ja)).trans ja
        replace uz:=(HB.out.cell (World.block_lt_of_cell? w _ uz)).trans uz
        replace pb:=eq_true pb
        replace gx:=eq_true gx
        refine start_ (n:=28) (S:=fun w' => w'.cell? ⟨qm,0,none⟩ = some (.int .i64 ((rd_T104 qf qn).f0)) ∧ w'.cell? ⟨qm,1,none⟩ = some (.int .i64 ((rd_T104 qf qn).f1)) ∧ w'.cell? ⟨qb,0,none⟩ = some (.int .i64 qp) ∧ w'.cell? ⟨qb,1,none⟩ = some (.int .i64 ql) ∧ w'.cell? ⟨qb,2,none⟩ = some (.slice (some ub) qf.length qv) ∧ w'.cell? ⟨qb,3,none⟩ = some (.slice wg qc.length qu) ∧ w'.cell? ⟨qb,4,none⟩ = some (.slice qx qg.length qt) ∧ w'.cell? ⟨qb,5,none⟩ = some (.slice qz qh.length qr) ∧ w'.cell? (ub.add (((jc)).toNat * 2)) = some (.int .i64 ((rd_T104 qf (jc)).f0)) ∧ w'.cell? ⟨(ub.add (((jc)).toNat * 2)).block,(ub.add (((jc)).toNat * 2)).off + 1,none⟩ = some (.int .i64 ((rd_T104 qf (jc)).f1))) (ds:=[]) b0q (by kernel_rfl) rfl rfl ⟨(blk_cell qo.out 0).trans rfl,(blk_cell qo.out 1).trans rfl,(blk_cell qa.out 0).trans rfl,(blk_cell qa.out 1).trans rfl,(blk_cell qa.out 2).trans rfl,(blk_cell qa.out 3).trans rfl,(blk_cell qa.out 4).trans rfl,(blk_cell qa.out 5).trans rfl,((HB.out.cell (World.block_lt_of_cell? w _ uk)).trans uk),((HB.out.cell (World.block_lt_of_cell? w _ uj)).trans uj)⟩ (fun hHeld=>?_);refine with_tabW spec_ClientOk.tab7 spec_ClientOk.bits7 (fun HT_ HW_=>?_)
        generalize w31.drew = w32 at qa qo HB ja uz hHeld ⊢
        refine pure_ (i:=0) (N:=some 31) (v:=?_) (a':=?_) b1q rfl rfl (any_of HT_.out (by kernel_rfl)) (fun _ _ _ h=>h) (Or.inl ⟨by rfl,?_⟩) ?_ ?_;rotate_left;(intro w';go_simp;with_reducible rfl);rotate_left;(exact z13a)
        refine take_ (i:=1) (N:=some 32) (v:=?_) (a':=?_) b2q rfl rfl (take_ofW HT_.out HW_.out (by kernel_rfl)) (fun _ _ _ h=>h) (Or.inl ⟨by rfl,?_⟩) hHeld ?_ ?_;rotate_left;(rintro w' ⟨s0,s1,s2,s3,s4,s5,s6,s7,s8,s9⟩;go_simp;with_reducible rfl);rotate_left;(exact z13a)
        refine one_ (i:=2) (N:=some 33) b3q rfl rfl (one_of HT_.out (by kernel_rfl)) (by decide) (fun K hK=>?_)
        refine goes_ Try.func98 (by kernel_rfl) rfl #[.int .i64 ((rd_T104 qf qn).f0),.int .i64 4,.int .i64 6] (by rfl) rfl rfl z13x9 ?_
        with_reducible refine (spec_l6In.calls ((rd_T104 qf qn).f0) 4 6 true _ A12.out).mono ?_
        rintro e w' ⟨rfl,⟨nd,rfl⟩⟩
        refine ⟨_,rfl,?_⟩
        refine hK.out _ _ ⟨(blk_cell qo.out 0).trans rfl,(blk_cell qo.out 1).trans rfl,(blk_cell qa.out 0).trans rfl,(blk_cell qa.out 1).trans rfl,(blk_cell qa.out 2).trans rfl,(blk_cell qa.out 3).trans rfl,(blk_cell qa.out 4).trans rfl,(blk_cell qa.out 5).trans rfl,((HB.out.cell (World.block_lt_of_cell? w _ uk)).trans uk),((HB.out.cell (World.block_lt_of_cell? w _ uj)).trans uj)⟩ (fun hHeld=>?_)
        clear hK K
        refine norm_ (a':=?_) ?_ ?_
        rotate_left
        ·show Act.put _ (some 33) _ = _
         simp only [Act.put,List.setIfInBounds_toArray,List.set_cons_zero,List.set_cons_succ,i64_w,i32_w]
         rfl
        refine pure_ (i:=3) (N:=some 34) (v:=?_) (a':=?_) b4q rfl rfl (any_of HT_.out (by kernel_rfl)) (fun _ _ _ h=>h) (Or.inl ⟨by rfl,?_⟩) ?_ ?_;rotate_left;(intro w';go_simp;with_reducible rfl);rotate_left;(exact z13a)
        refine pure_ (i:=4) (N:=some 35) (v:=?_) (a':=?_) b5q rfl rfl (any_of HT_.out (by kernel_rfl)) (fun _ _ _ h=>h) (Or.inl ⟨by rfl,?_⟩) ?_ ?_;rotate_left;(intro w';go_simp;with_reducible rfl);rotate_left;(exact z13a)
        refine pure_ (i:=5) (N:=some 36) (v:=?_) (a':=?_) b6q rfl rfl (any_of HT_.out (by kernel_rfl)) (fun _ _ _ h=>h) (Or.inl ⟨by rfl,?_⟩) ?_ ?_;rotate_left;(intro w';go_simp;with_reducible rfl);rotate_left;(exact z13a)
        refine pure_ (i:=7) (N:=some 38) (v:=?_) (a':=?_) b29q rfl rfl (any_of HT_.out (by kernel_rfl)) (fun _ _ _ h=>h) (Or.inl ⟨by rfl,?_⟩) ?_ ?_;rotate_left;(intro w';go_simp;with_reducible rfl);rotate_left;(exact z13a)
        refine take_ (i:=6) (N:=some 37) (v:=?_) (a':=?_) b8q rfl rfl (take_ofW HT_.out HW_.out (by kernel_rfl)) (fun _ _ _ h=>h) (Or.inl ⟨by rfl,?_⟩) hHeld ?_ ?_;rotate_left;(rintro w' ⟨s0,s1,s2,s3,s4,s5,s6,s7,s8,s9⟩;go_simp;with_reducible rfl);rotate_left;(exact z13a)
        refine take_ (i:=8) (N:=some 39) (v:=?_) (a':=?_) b9q rfl rfl (take_ofW HT_.out HW_.out (by kernel_rfl)) (fun _ _ _ h=>h) (Or.inl ⟨by rfl,?_⟩) hHeld ?_ ?_;rotate_left;(rintro w' ⟨s0,s1,s2,s3,s4,s5,s6,s7,s8,s9⟩;go_simp;with_reducible rfl);rotate_left;(exact z13a)
        refine one_ (i:=9) (N:=some 40) b10q rfl rfl (one_of HT_.out (by kernel_rfl)) (by decide) (fun K hK=>?_)
        refine goes_ Try.func98 (by kernel_rfl) rfl #[.int .i64 ((rd_T104 qf qn).f1),.int .i64 1,.int .i64 ql] (by rfl) rfl rfl z13x9 ?_
        with_reducible refine (spec_l6In.calls ((rd_T104 qf qn).f1) 1 ql true _ A14.out).mono ?_
        rintro e w' ⟨rfl,⟨nd,rfl⟩⟩
        refine ⟨_,rfl,?_⟩
        refine hK.out _ _ ⟨(blk_cell qo.out 0).trans rfl,(blk_cell qo.out 1).trans rfl,(blk_cell qa.out 0).trans rfl,(blk_cell qa.out 1).trans rfl,(blk_cell qa.out 2).trans rfl,(blk_cell qa.out 3).trans rfl,(blk_cell qa.out 4).trans rfl,(blk_cell qa.out 5).trans rfl,((HB.out.cell (World.block_lt_of_cell? w _ uk)).trans uk),((HB.out.cell (World.block_lt_of_cell? w _ uj)).trans uj)⟩ (fun hHeld=>?_)
        clear hK K
        refine norm_ (a':=?_) ?_ ?_
        rotate_left
        ·show Act.put _ (some 40) _ = _
         simp only [Act.put,List.setIfInBounds_toArray,List.set_cons_zero,List.set_cons_succ,i64_w,i32_w]
         rfl
        refine pure_ (i:=10) (N:=some 41) (v:=?_) (a':=?_) b11q rfl rfl (any_of HT_.out (by kernel_rfl)) (fun _ _ _ h=>h) (Or.inl ⟨by rfl,?_⟩) ?_ ?_;rotate_left;(intro w';go_simp;with_reducible rfl);rotate_left;(exact z13a)
        refine pure_ (i:=11) (N:=some 42) (v:=?_) (a':=?_) b12q rfl rfl (any_of HT_.out (by kernel_rfl)) (fun _ _ _ h=>h) (Or.inl ⟨by rfl,?_⟩) ?_ ?_;rotate_left;(intro w';go_simp;with_reducible rfl);rotate_left;(exact z13a)
        refine pure_ (i:=12) (N:=some 43) (v:=?_) (a':=?_) b13q rfl rfl (any_of HT_.out (by kernel_rfl)) (fun _ _ _ h=>h) (Or.inl ⟨by rfl,?_⟩) ?_ ?_;rotate_left;(intro w';go_simp;with_reducible rfl);rotate_left;(exact z13a)
        refine pure_ (i:=13) (N:=some 44) (v:=?_) (a':=?_) b14q rfl rfl (any_of HT_.out (by kernel_rfl)) (fun _ _ _ h=>h) (Or.inl ⟨by rfl,?_⟩) ?_ ?_;rotate_left;(intro w';go_simp;with_reducible rfl);rotate_left;(exact z13a)
        refine pure_ (i:=14) (N:=some 45) (v:=?_) (a':=?_) b15q rfl rfl (any_of HT_.out (by kernel_rfl)) (fun _ _ _ h=>h) (Or.inl ⟨by rfl,?_⟩) ?_ ?_;rotate_left;(intro w';go_simp;with_reducible rfl);rotate_left;(exact z13a)
        refine pure_ (i:=15) (N:=some 46) (v:=?_) (a':=?_) b16q rfl rfl (any_of HT_.out (by kernel_rfl)) (fun _ _ _ h=>h) (Or.inl ⟨by rfl,?_⟩) ?_ ?_;rotate_left;(intro w';go_simp;with_reducible rfl);rotate_left;(exact z13a)
        refine pure_ (i:=16) (N:=some 47) (v:=?_) (a':=?_) b17q rfl rfl (any_of HT_.out (by kernel_rfl)) (fun _ _ _ h=>h) (Or.inl ⟨by rfl,?_⟩) ?_ ?_;rotate_left;(intro w';go_simp;with_reducible rfl);rotate_left;(exact z13a)
        refine pure_ (i:=18) (N:=some 49) (v:=?_) (a':=?_) b30q rfl rfl (any_of HT_.out (by kernel_rfl)) (fun _ _ _ h=>h) (Or.inl ⟨by rfl,?_⟩) ?_ ?_;rotate_left;(intro w';go_simp;with_reducible rfl);rotate_left;(exact z13a)
        refine pure_ (i:=19) (N:=some 50) (v:=?_) (a':=?_) b31q rfl rfl (any_of HT_.out (by kernel_rfl)) (fun _ _ _ h=>h) (Or.inl ⟨by rfl,?_⟩) ?_ ?_;rotate_left;(intro w';go_simp;with_reducible rfl);rotate_left;(exact z13a)
        refine pure_ (i:=23) (N:=some 54) (v:=?_) (a':=?_) b32q rfl rfl (any_of HT_.out (by kernel_rfl)) (fun _ _ _ h=>h) (Or.inl ⟨by rfl,?_⟩) ?_ ?_;rotate_left;(intro w';go_simp;with_reducible rfl);rotate_left;(exact z13a)
        refine take_ (i:=17) (N:=some 48) (v:=?_) (a':=?_) b33q rfl rfl (take_ofW HT_.out HW_.out (by kernel_rfl)) (fun _ _ _ h=>h) (Or.inl ⟨by rfl,?_⟩) hHeld ?_ ?_;rotate_left;(rintro w' ⟨s0,s1,s2,s3,s4,s5,s6,s7,s8,s9⟩;go_simp;with_reducible rfl);rotate_left;(exact z13a)
        refine pure_ (i:=20) (N:=some 51) (v:=?_) (a':=?_) b34q rfl rfl (any_of HT_.out (by kernel_rfl)) (fun _ _ _ h=>h) (Or.inl ⟨by rfl,?_⟩) ?_ ?_;rotate_left;(intro w';go_simp;with_reducible rfl);rotate_left;(exact z13a)
        refine pure_ (i:=21) (N:=some 52) (v:=?_) (a':=?_) b35q rfl rfl (any_of HT_.out (by kernel_rfl)) (fun _ _ _ h=>h) (Or.inl ⟨by rfl,?_⟩) ?_ ?_;rotate_left;(intro w';go_simp;with_reducible rfl);rotate_left;(exact z13a)
        refine take_ (i:=22) (N:=some 53) (v:=?_) (a':=?_) b24q rfl rfl (take_ofW HT_.out HW_.out (by kernel_rfl)) (fun _ _ _ h=>h) (Or.inl ⟨by rfl,?_⟩) hHeld ?_ ?_;rotate_left;(rintro w' ⟨s0,s1,s2,s3,s4,s5,s6,s7,s8,s9⟩;go_simp;with_reducible rfl);rotate_left;(exact z13a)
        refine take_ (i:=24) (N:=some 55) (v:=?_) (a':=?_) b25q rfl rfl (take_ofW HT_.out HW_.out (by kernel_rfl)) (fun _ _ _ h=>h) (Or.inl ⟨by rfl,?_⟩) hHeld ?_ ?_;rotate_left;(rintro w' ⟨s0,s1,s2,s3,s4,s5,s6,s7,s8,s9⟩;go_simp;with_reducible rfl);rotate_left;(exact z13a)
        refine pure_ (i:=25) (N:=some 56) (v:=?_) (a':=?_) b26q rfl rfl (any_of HT_.out (by kernel_rfl)) (fun _ _ _ h=>h) (Or.inl ⟨by rfl,?_⟩) ?_ ?_;rotate_left;(intro w';go_simp;with_reducible rfl);rotate_left;(exact z13a)
        refine pure_ (i:=26) (N:=some 57) (v:=?_) (a':=?_) b27q rfl rfl (any_of HT_.out (by kernel_rfl)) (fun _ _ _ h=>h) (Or.inl ⟨by rfl,?_⟩) ?_ ?_;rotate_left;(intro w';go_simp;with_reducible rfl);rotate_left;(exact z13a)
        refine pure_ (i:=27) (N:=some 58) (v:=?_) (a':=?_) b28q rfl rfl (any_of HT_.out (by kernel_rfl)) (fun _ _ _ h=>h) (Or.inl ⟨by rfl,?_⟩) ?_ ?_;rotate_left;(intro w';go_simp;with_reducible rfl);rotate_left;(exact z13a)
        refine done_ (done_of HT_.out (by kernel_rfl)) ?_
        try go_wp2
        go_roundg k2
        case measure=>have:=HJ1.out;have:=HK2.out;omega
        case rel=>exact ⟨(wrap64 (qn + 1)),(by first|rfl|(simp;done)|(simp [*];done)),H',⟨by have:=HJ1.out;have:=HK2.out;omega⟩,⟨by (with_reducible repeat (first|refine blk_drewN ?_ _|refine blk_drew ?_|refine blk_alloc ?_ _));exact qa.out⟩,⟨by repeat (first|(with_reducible first|exact HB.out|apply below_alloc|apply pw_below_drewN|apply below_drew1|refine below_set ?_ vm.out|refine below_set ?_ jn.out)|exact HB.out)⟩⟩
      ·rw [if_neg c10] at H
       have qfq : decide (qn < (qf.length : Int)) = false:=decide_eq_false c10
       clear c10
       have H':=Aside0.mk H
       clear H
       have qaj : wr.cell? ⟨qb,0,none⟩ = some (.int .i64 qp):=(blk_cell qa.out 0).trans rfl
       have qai : wr.cell? ⟨qb,1,none⟩ = some (.int .i64 ql):=(blk_cell qa.out 1).trans rfl
       have qah : wr.cell? ⟨qb,2,none⟩ = some (.slice wd qf.length qv):=(blk_cell qa.out 2).trans rfl
       have qag : wr.cell? ⟨qb,3,none⟩ = some (.slice wg qc.length qu):=(blk_cell qa.out 3).trans rfl
       have qaf : wr.cell? ⟨qb,4,none⟩ = some (.slice qx qg.length qt):=(blk_cell qa.out 4).trans rfl
       have qae : wr.cell? ⟨qb,5,none⟩ = some (.slice qz qh.length qr):=(blk_cell qa.out 5).trans rfl
       have pl:=blk_frozen qa.out 0
       have pk:=blk_frozen qa.out 1
       have pj:=blk_frozen qa.out 2
       have pi:=blk_frozen qa.out 3
       have ph:=blk_frozen qa.out 4
       have pg:=blk_frozen qa.out 5
       go_wp2
       go_loopg [5] k2 (fun kq v5 w' => ∃ (qe : Int),v5 = .int .i64 qe ∧ Aside0 (spec_ClientOk.l1 kq qe qp ql qf qc qg qh = some r) ∧ Aside0 (kq ≤ k2) ∧ Aside0 (w'.heap[qb]? = some (.cells #[.int .i64 qp,.int .i64 ql,(.slice wd qf.length qv),(.slice wg qc.length qu),(.slice qx qg.length qt),(.slice qz qh.length qr)] 28 (0,0))) ∧ Aside0 (Below w.heap.size w w'))
       case atStart=>exact ⟨(0),(by first|rfl|(simp;done)|(simp [*];done)),H',⟨Nat.le_refl _⟩,⟨by (with_reducible repeat (first|refine blk_drewN ?_ _|refine blk_drew ?_|refine blk_alloc ?_ _));exact qa.out⟩,⟨by repeat (first|(with_reducible first|exact HB.out|apply below_alloc|apply pw_below_drewN|apply below_drew1|refine below_set ?_ vm.out)|exact HB.out)⟩⟩
       case round =>
        clear H'
        try clear c1
        try clear p1
        try clear q1
        try clear hx1
        try clear p2
        try clear c4
        try clear p6
        try clear c9
        try clear c10
        try clear qfq
        try clear c11
        try clear c13
        try clear p13
        try clear q13
        try clear qya
        try clear c15
        try clear c41
        try clear c47
        try clear qaz
        try clear qay
        try clear qax
        try clear qaw
        try clear qav
        try clear qau
        try clear qat
        try clear qas
        try clear qar
        try clear qaq
        try clear qap
        try clear qao
        try clear qan
        try clear qam
        try clear qal
        try clear qak
        try clear qaj
        try clear qai
        try clear qah
        try clear qag
        try clear qaf
        try clear qae
        try clear qad
        try clear qac
        try clear qab
        try clear qaa
        try clear pz
        try clear px
        try clear pw
        try clear pv
        try clear pu
        try clear pt
        try clear pr
        try clear pq
        try clear pp
        try clear po
        try clear pn
        try clear pm
        try clear pl
        try clear pk
        try clear pj
        try clear pi
        try clear ph
        try clear pg
        try clear vl
        try clear vk
        try clear jp
        try clear jo
        obtain ⟨qe,rfl,HA,HK3,qa,HB⟩:=hrel
        cases gk with
        | zero=>exact absurd HA.out (by simp [spec_ClientOk.l1])
        | succ k3 =>
         have H:=HA.out
         clear HA
         simp only [spec_ClientOk.l1] at H
         by_cases c52 : qe < (qc.length : Int)
         ·rw [if_pos c52] at H
          have qsl : decide (qe < (qc.length : Int)) = true:=decide_eq_true c52
          clear c52
          by_cases c53 : 0 ≤ qe
          rotate_left
          ·rw [if_neg c53] at H
           exact absurd H (by simp)
          rw [if_pos c53] at H
          have qvt : decide (0 ≤ qe) = true:=decide_eq_true c53
          clear c53
          replace H:=Option.bind_eq_some_iff.mp H
          obtain ⟨qge,qwa,H⟩:=H
          replace H : (if qge = true then ((spec_l12Cred.f k3 qp ql qf qc qg qh ((rd_T106 qc qe).f0)).bind fun jw=>(if jw = qe then ((spec_l1Session.f ((rd_T106 qc qe).f1)).bind fun gp=>(if gp = true then ((spec_l1Time.f ((rd_T106 qc qe).f2)).bind fun gh=>(if gh = true then ((spec_SealOk.f ((rd_T106 qc qe).f3.f0) ((rd_T106 qc qe).f3.f1) ((rd_T106 qc qe).f3.f2) ((rd_T106 qc qe).f3.f3) ((rd_T106 qc qe).f3.f4) ((rd_T106 qc qe).f3.f5) ((rd_T106 qc qe).f3.f6)).bind fun jy=>(if jy = true then (spec_ClientOk.l1 k3 (wrap64 (qe + 1)) qp ql qf qc qg qh) else (some false))) else (some false))) else (some false))) else (some false))) else (some false)) = some r:=H
          have A54:=Aside0.mk qwa
          clear qwa
          by_cases c55 : qge = true
          rotate_left
          ·replace c55:=Bool.eq_false_iff.mpr c55
           subst c55
           rw [if_neg (show ¬ (false = true) by decide)] at H
           obtain rfl:=Option.some.inj H
           have qfl : wr.cell? ⟨qb,0,none⟩ = some (.int .i64 qp):=(blk_cell qa.out 0).trans rfl
           have qfk : wr.cell? ⟨qb,1,none⟩ = some (.int .i64 ql):=(blk_cell qa.out 1).trans rfl
           have qfj : wr.cell? ⟨qb,2,none⟩ = some (.slice wd qf.length qv):=(blk_cell qa.out 2).trans rfl
           have qfi : wr.cell? ⟨qb,3,none⟩ = some (.slice wg qc.length qu):=(blk_cell qa.out 3).trans rfl
           have qfh : wr.cell? ⟨qb,4,none⟩ = some (.slice qx qg.length qt):=(blk_cell qa.out 4).trans rfl
           have qfg : wr.cell? ⟨qb,5,none⟩ = some (.slice qz qh.length qr):=(blk_cell qa.out 5).trans rfl
           have qdl:=blk_frozen qa.out 0
           have qdk:=blk_frozen qa.out 1
           have qdj:=blk_frozen qa.out 2
           have qdi:=blk_frozen qa.out 3
           have qdh:=blk_frozen qa.out 4
           have qdg:=blk_frozen qa.out 5
           have je : 0 ≤ (qe : Int):=of_decide_eq_true (by first|(with_reducible assumption)|assumption)
           have jb : qe < (qc.length : Int):=of_decide_eq_true (by first|(with_reducible assumption)|assumption)
           obtain ⟨ue,gc,wx,ww,wv,wu,wt,ws,wq,wo,wn,wm⟩:=at_T106 jt.out qe je jb
           cases gc
           replace wx:=(HB.out.cell (World.block_lt_of_cell? w _ wx)).trans wx
           replace ww:=(HB.out.cell (World.block_lt_of_cell? w _ ww)).trans ww
           replace wv:=(HB.out.cell (World.block_lt_of_cell? w _ wv)).trans wv
           replace wu:=(HB.out.cell (World.block_lt_of_cell? w _ wu)).trans wu
           replace wt:=(HB.out.cell (World.block_lt_of_cell? w _ wt)).trans wt
           replace ws:=(HB.out.cell (World.block_lt_of_cell? w _ ws)).trans ws
           replace wq:=(HB.out.cell (World.block_lt_of_cell? w _ wq)).trans wq
           replace wo:=(HB.out.cell (World.block_lt_of_cell? w _ wo)).trans wo
           replace wn:=(HB.out.cell (World.block_lt_of_cell? w _ wn)).trans wn
           replace wm:=(HB.out.cell (World.block_lt_of_cell? w _ wm)).trans wm
           replace je:=eq_true je
           replace jb:=eq_true jb
           go_wp2_with (first|((with_reducible refine gate_dst (N:=6) rfl ?_);refine box_event ?hg (N:=6) ?hd (cs:=#[.int .i64 0,.int .i64 0,.int .i64 0,.int .i64 0,.int .i64 0,.int .i64 0,.int .i64 0,.int .i64 0,.int .i64 0,.int .i64 0]) (t:=106) ?hr ?_;(case hd=>rfl);(case hg=>rfl);(case hr=>first|(go_simp;done)|(go_simp;rfl));intro qi hg gg hbox hb;have n0_:=Aside0.mk (blk_below (g:=qb) (o:=.cells #[.int .i64 qp,.int .i64 ql,.slice wd qf.length qv,.slice (some ue) qc.length qu,.slice qx qg.length qt,.slice qz qh.length qr] 28 (0,0)) z13x11 hb);have n1_:=Aside0.mk (below_step z13x8 hb);have n2_:=Aside0.mk (hbox);have n3_:=Aside0.mk ((z13x7 : w.heap.size ≤ qi));have n4_:=Aside0.mk ((z13x7 : w.heap.size ≤ qi));have n5_:=Aside0.mk ((z13x5 : qb ≠ qi));have n6_:=Aside0.mk ((z13x3 : qi ≠ qb));clear qa;clear HB;have qa:=n0_;have HB:=n1_;have qd:=n2_;have gt:=n3_;have js:=n4_;have qy:=n5_;have uc:=n6_;clear n0_ n1_ n2_ n3_ n4_ n5_ n6_;clear hb hbox hg;have qyc:=uc.out;have qyb:=qy.out;have qff : gg.cell? ⟨qi,0,none⟩ = some (.int .i64 0):=(blk_cell qd.out 0).trans rfl;have qfe : gg.cell? ⟨qi,1,none⟩ = some (.int .i64 0):=(blk_cell qd.out 1).trans rfl;have qfd : gg.cell? ⟨qi,2,none⟩ = some (.int .i64 0):=(blk_cell qd.out 2).trans rfl;have qfc : gg.cell? ⟨qi,3,none⟩ = some (.int .i64 0):=(blk_cell qd.out 3).trans rfl;have qfb : gg.cell? ⟨qi,4,none⟩ = some (.int .i64 0):=(blk_cell qd.out 4).trans rfl;have qfa : gg.cell? ⟨qi,5,none⟩ = some (.int .i64 0):=(blk_cell qd.out 5).trans rfl;have qez : gg.cell? ⟨qi,6,none⟩ = some (.int .i64 0):=(blk_cell qd.out 6).trans rfl;have qey : gg.cell? ⟨qi,7,none⟩ = some (.int .i64 0):=(blk_cell qd.out 7).trans rfl;have qex : gg.cell? ⟨qi,8,none⟩ = some (.int .i64 0):=(blk_cell qd.out 8).trans rfl;have qew : gg.cell? ⟨qi,9,none⟩ = some (.int .i64 0):=(blk_cell qd.out 9).trans rfl;have qdf:=blk_frozen qd.out 0;have qde:=blk_frozen qd.out 1;have qdd:=blk_frozen qd.out 2;have qdc:=blk_frozen qd.out 3;have qdb:=blk_frozen qd.out 4;have qda:=blk_frozen qd.out 5;have qcz:=blk_frozen qd.out 6;have qcy:=blk_frozen qd.out 7;have qcx:=blk_frozen qd.out 8;have qcw:=blk_frozen qd.out 9)|((with_reducible refine gate_callee (f:=98) rfl ?_);refine goesL_ (some 73) rfl rfl Try.func98 (by kernel_rfl) rfl #[.int .i64 ((rd_T106 qc qe).f0),.int .i64 4,.int .i64 6] rfl z13x9 ?_;(with_reducible refine (spec_l6In.calls ((rd_T106 qc qe).f0) 4 6 false _ A54.out).mono ?_);rintro e w' ⟨rfl,⟨nd,rfl⟩⟩; refine ⟨_,rfl,?_⟩))
           go_ret
           exact ⟨by first|rfl|(simp [errW_none,errW_some] <;> rfl)|(simp [*,errW_none,errW_some] <;> rfl),by repeat (first|(with_reducible first|exact HB.out|apply below_alloc|apply pw_below_drewN|apply below_drew1|refine below_set ?_ vm.out|refine below_set ?_ js.out)|exact HB.out)⟩
          subst c55
          rw [if_pos rfl] at H
          replace H:=Option.bind_eq_some_iff.mp H
          obtain ⟨jw,qvz,H⟩:=H
          replace H : (if jw = qe then ((spec_l1Session.f ((rd_T106 qc qe).f1)).bind fun gp=>(if gp = true then ((spec_l1Time.f ((rd_T106 qc qe).f2)).bind fun gh=>(if gh = true then ((spec_SealOk.f ((rd_T106 qc qe).f3.f0) ((rd_T106 qc qe).f3.f1) ((rd_T106 qc qe).f3.f2) ((rd_T106 qc qe).f3.f3) ((rd_T106 qc qe).f3.f4) ((rd_T106 qc qe).f3.f5) ((rd_T106 qc qe).f3.f6)).bind fun jy=>(if jy = true then (spec_ClientOk.l1 k3 (wrap64 (qe + 1)) qp ql qf qc qg qh) else (some false))) else (some false))) else (some false))) else (some false)) = some r:=H
          have A56:=Aside0.mk qvz
          clear qvz
          by_cases c57 : jw = qe
          rotate_left
          ·rw [if_neg c57] at H
           have qsk : (jw == qe) = false:=beq_eq_false_iff_ne.mpr c57
           have qsj : (jw != qe) = true:=bne_iff_ne.mpr c57
           obtain rfl:=Option.some.inj H
           have qmv : wr.cell? ⟨qb,0,none⟩ = some (.int .i64 qp):=(blk_cell qa.out 0).trans rfl
           have qmu : wr.cell? ⟨qb,1,none⟩ = some (.int .i64 ql):=(blk_cell qa.out 1).trans rfl
           have qmt : wr.cell? ⟨qb,2,none⟩ = some (.slice wd qf.length qv):=(blk_cell qa.out 2).trans rfl
           have qms : wr.cell? ⟨qb,3,none⟩ = some (.slice wg qc.length qu):=(blk_cell qa.out 3).trans rfl
           have qmr : wr.cell? ⟨qb,4,none⟩ = some (.slice qx qg.length qt):=(blk_cell qa.out 4).trans rfl
           have qmq : wr.cell? ⟨qb,5,none⟩ = some (.slice qz qh.length qr):=(blk_cell qa.out 5).trans rfl
           have qhb:=blk_frozen qa.out 0
           have qha:=blk_frozen qa.out 1
           have qgz:=blk_frozen qa.out 2
           have qgy:=blk_frozen qa.out 3
           have qgx:=blk_frozen qa.out 4
           have qgw:=blk_frozen qa.out 5
           have je : 0 ≤ (qe : Int):=of_decide_eq_true (by first|(with_reducible assumption)|assumption)
           have jb : qe < (qc.length : Int):=of_decide_eq_true (by first|(with_reducible assumption)|assumption)
           obtain ⟨ue,gc,wx,ww,wv,wu,wt,ws,wq,wo,wn,wm⟩:=at_T106 jt.out qe je jb
           cases gc
           replace wx:=(HB.out.cell (World.block_lt_of_cell? w _ wx)).trans wx
           replace ww:=(HB.out.cell (World.block_lt_of_cell? w _ ww)).trans ww
           replace wv:=(HB.out.cell (World.block_lt_of_cell? w _ wv)).trans wv
           replace wu:=(HB.out.cell (World.block_lt_of_cell? w _ wu)).trans wu
           replace wt:=(HB.out.cell (World.block_lt_of_cell? w _ wt)).trans wt
           replace ws:=(HB.out.cell (World.block_lt_of_cell? w _ ws)).trans ws
           replace wq:=(HB.out.cell (World.block_lt_of_cell? w _ wq)).trans wq
           replace wo:=(HB.out.cell (World.block_lt_of_cell? w _ wo)).trans wo
           replace wn:=(HB.out.cell (World.block_lt_of_cell? w _ wn)).trans wn
           replace wm:=(HB.out.cell (World.block_lt_of_cell? w _ wm)).trans wm
           replace je:=eq_true je
           replace jb:=eq_true jb
           go_wp2_with (first|((with_reducible refine gate_dst (N:=6) rfl ?_);refine box_event ?hg (N:=6) ?hd (cs:=#[.int .i64 0,.int .i64 0,.int .i64 0,.int .i64 0,.int .i64 0,.int .i64 0,.int .i64 0,.int .i64 0,.int .i64 0,.int .i64 0]) (t:=106) ?hr ?_;(case hd=>rfl);(case hg=>rfl);(case hr=>first|(go_simp;done)|(go_simp;rfl));intro qi hg w95 hbox hb;have n0_:=Aside0.mk (blk_below (g:=qb) (o:=.cells #[.int .i64 qp,.int .i64 ql,.slice wd qf.length qv,.slice (some ue) qc.length qu,.slice qx qg.length qt,.slice qz qh.length qr] 28 (0,0)) z13x11 hb);have n1_:=Aside0.mk (below_step z13x8 hb);have n2_:=Aside0.mk (hbox);have n3_:=Aside0.mk ((z13x7 : w.heap.size ≤ qi));have n4_:=Aside0.mk ((z13x7 : w.heap.size ≤ qi));have n5_:=Aside0.mk ((z13x5 : qb ≠ qi));have n6_:=Aside0.mk ((z13x3 : qi ≠ qb));clear qa;clear HB;have qa:=n0_;have HB:=n1_;have qd:=n2_;have gt:=n3_;have js:=n4_;have qy:=n5_;have uc:=n6_;clear n0_ n1_ n2_ n3_ n4_ n5_ n6_;clear hb hbox hg;have qyz:=uc.out;have qyp:=qy.out;have qmp : w95.cell? ⟨qi,0,none⟩ = some (.int .i64 0):=(blk_cell qd.out 0).trans rfl;have qmo : w95.cell? ⟨qi,1,none⟩ = some (.int .i64 0):=(blk_cell qd.out 1).trans rfl;have qmn : w95.cell? ⟨qi,2,none⟩ = some (.int .i64 0):=(blk_cell qd.out 2).trans rfl;have qmm : w95.cell? ⟨qi,3,none⟩ = some (.int .i64 0):=(blk_cell qd.out 3).trans rfl;have qml : w95.cell? ⟨qi,4,none⟩ = some (.int .i64 0):=(blk_cell qd.out 4).trans rfl;have qmk : w95.cell? ⟨qi,5,none⟩ = some (.int .i64 0):=(blk_cell qd.out 5).trans rfl;have qmj : w95.cell? ⟨qi,6,none⟩ = some (.int .i64 0):=(blk_cell qd.out 6).trans rfl;have qmi : w95.cell? ⟨qi,7,none⟩ = some (.int .i64 0):=(blk_cell qd.out 7).trans rfl;have qmh : w95.cell? ⟨qi,8,none⟩ = some (.int .i64 0):=(blk_cell qd.out 8).trans rfl;have qmg : w95.cell? ⟨qi,9,none⟩ = some (.int .i64 0):=(blk_cell qd.out 9).trans rfl;have qgv:=blk_frozen qd.out 0;have qgu:=blk_frozen qd.out 1;have qgt:=blk_frozen qd.out 2;have qgs:=blk_frozen qd.out 3;have qgr:=blk_frozen qd.out 4;have qgq:=blk_frozen qd.out 5;have qgp:=blk_frozen qd.out 6;have qgo:=blk_frozen qd.out 7;have qgn:=blk_frozen qd.out 8;have qgm:=blk_frozen qd.out 9)|((with_reducible refine gate_callee (f:=98) rfl ?_);refine goesL_ (some 73) rfl rfl Try.func98 (by kernel_rfl) rfl #[.int .i64 ((rd_T106 qc qe).f0),.int .i64 4,.int .i64 6] rfl z13x9 ?_;(with_reducible refine (spec_l6In.calls ((rd_T106 qc qe).f0) 4 6 true _ A54.out).mono ?_);rintro e w' ⟨rfl,⟨nd,rfl⟩⟩; refine ⟨_,rfl,?_⟩; have qmf : w95.cell? ⟨qb,0,none⟩ = some (.int .i64 qp):=(blk_cell qa.out 0).trans rfl;have qme : w95.cell? ⟨qb,1,none⟩ = some (.int .i64 ql):=(blk_cell qa.out 1).trans rfl;have qmd : w95.cell? ⟨qb,2,none⟩ = some (.slice wd qf.length qv):=(blk_cell qa.out 2).trans rfl;have qmc : w95.cell? ⟨qb,3,none⟩ = some (.slice (some ue) qc.length qu):=(blk_cell qa.out 3).trans rfl;have qmb : w95.cell? ⟨qb,4,none⟩ = some (.slice qx qg.length qt):=(blk_cell qa.out 4).trans rfl;have qma : w95.cell? ⟨qb,5,none⟩ = some (.slice qz qh.length qr):=(blk_cell qa.out 5).trans rfl;have qgl:=blk_frozen qa.out 0;have qgk:=blk_frozen qa.out 1;have qgj:=blk_frozen qa.out 2;have qgi:=blk_frozen qa.out 3;have qgh:=blk_frozen qa.out 4;have qgg:=blk_frozen qa.out 5)|(go_at_call 114;(with_reducible refine (spec_l12Cred.calls k3 qp ql _ _ qf _ _ qc _ _ qg _ _ qh ((rd_T106 qc qe).f0) jw _ ?side1 ?side2 ?side3 ?side4 ?side5 ?side6 ?side7 ?side8 A56.out).mono ?_);(case side1=>exact Kd.C_below jr.out z13x6);(case side2=>exact gs.out);(case side3=>exact Kd.C_below jt.out z13x6);(case side4=>exact gr.out);(case side5=>exact Kd.C_below jd.out z13x6);(case side6=>exact jx.out);(case side7=>exact Kd.C_below jq.out z13x6);(case side8=>exact gf.out);rintro e w99 ⟨rfl,hb⟩; have n0_:=Aside0.mk (blk_below (g:=qb) (o:=.cells #[.int .i64 qp,.int .i64 ql,.slice wd qf.length qv,.slice (some ue) qc.length qu,.slice qx qg.length qt,.slice qz qh.length qr] 28 (0,0)) z13x1 hb);have n1_:=Aside0.mk (blk_below (g:=qi) (o:=.cells #[.int .i64 ((rd_T106 qc qe).f0),.int .i64 ((rd_T106 qc qe).f1),.int .i64 ((rd_T106 qc qe).f2),.int .i64 ((rd_T106 qc qe).f3.f0),.int .i64 ((rd_T106 qc qe).f3.f1),.int .i64 ((rd_T106 qc qe).f3.f2),.int .i64 ((rd_T106 qc qe).f3.f3),.int .i64 ((rd_T106 qc qe).f3.f4),.int .i64 ((rd_T106 qc qe).f3.f5),.int .i64 ((rd_T106 qc qe).f3.f6)] 106 (0,0)) z13x0 hb);have n2_:=Aside0.mk (below_step z13x6 hb);clear qa;clear qd;clear HB;have qa:=n0_;have qd:=n1_;have HB:=n2_;clear n0_ n1_ n2_;(try clear hb);(try clear hb2);(try clear hk);(try clear hi)))
           go_ret
           exact ⟨by first|rfl|(simp [errW_none,errW_some] <;> rfl)|(simp [*,errW_none,errW_some] <;> rfl),by repeat (first|(with_reducible first|exact HB.out|apply below_alloc|apply pw_below_drewN|apply below_drew1|refine below_set ?_ vm.out|refine below_set ?_ js.out)|exact HB.out)⟩
          rw [if_pos c57] at H
          have qsk : (jw == qe) = true:=beq_iff_eq.mpr c57
          have qsj : (jw != qe) = false:=bne_eq_false_iff_eq.mpr c57
          clear c57
          replace H:=Option.bind_eq_some_iff.mp H
          obtain ⟨gp,qvy,H⟩:=H
          replace H : (if gp = true then ((spec_l1Time.f ((rd_T106 qc qe).f2)).bind fun gh=>(if gh = true then ((spec_SealOk.f ((rd_T106 qc qe).f3.f0) ((rd_T106 qc qe).f3.f1) ((rd_T106 qc qe).f3.f2) ((rd_T106 qc qe).f3.f3) ((rd_T106 qc qe).f3.f4) ((rd_T106 qc qe).f3.f5) ((rd_T106 qc qe).f3.f6)).bind fun jy=>(if jy = true then (spec_ClientOk.l1 k3 (wrap64 (qe + 1)) qp ql qf qc qg qh) else (some false))) else (some false))) else (some false)) = some r:=H
          have A58:=Aside0.mk qvy
          clear qvy
          by_cases c59 : gp = true
          rotate_left
          ·replace c59:=Bool.eq_false_iff.mpr c59
           subst c59
           rw [if_neg (show ¬ (false = true) by decide)] at H
           obtain rfl:=Option.some.inj H
           have qob : wr.cell? ⟨qb,0,none⟩ = some (.int .i64 qp):=(blk_cell qa.out 0).trans rfl
           have qoa : wr.cell? ⟨qb,1,none⟩ = some (.int .i64 ql):=(blk_cell qa.out 1).trans rfl
           have qnz : wr.cell? ⟨qb,2,none⟩ = some (.slice wd qf.length qv):=(blk_cell qa.out 2).trans rfl
           have qny : wr.cell? ⟨qb,3,none⟩ = some (.slice wg qc.length qu):=(blk_cell qa.out 3).trans rfl
           have qnx : wr.cell? ⟨qb,4,none⟩ = some (.slice qx qg.length qt):=(blk_cell qa.out 4).trans rfl
           have qnw : wr.cell? ⟨qb,5,none⟩ = some (.slice qz qh.length qr):=(blk_cell qa.out 5).trans rfl
           have qih:=blk_frozen qa.out 0
           have qig:=blk_frozen qa.out 1
           have qif:=blk_frozen qa.out 2
           have qie:=blk_frozen qa.out 3
           have qid:=blk_frozen qa.out 4
           have qic:=blk_frozen qa.out 5
           have je : 0 ≤ (qe : Int):=of_decide_eq_true (by first|(with_reducible assumption)|assumption)
           have jb : qe < (qc.length : Int):=of_decide_eq_true (by first|(with_reducible assumption)|assumption)
           obtain ⟨ue,gc,wx,ww,wv,wu,wt,ws,wq,wo,wn,wm⟩:=at_T106 jt.out qe je jb
           cases gc
           replace wx:=(HB.out.cell (World.block_lt_of_cell? w _ wx)).trans wx
           replace ww:=(HB.out.cell (World.block_lt_of_cell? w _ ww)).trans ww
           replace wv:=(HB.out.cell (World.block_lt_of_cell? w _ wv)).trans wv
           replace wu:=(HB.out.cell (World.block_lt_of_cell? w _ wu)).trans wu
           replace wt:=(HB.out.cell (World.block_lt_of_cell? w _ wt)).trans wt
           replace ws:=(HB.out.cell (World.block_lt_of_cell? w _ ws)).trans ws
           replace wq:=(HB.out.cell (World.block_lt_of_cell? w _ wq)).trans wq
           replace wo:=(HB.out.cell (World.block_lt_of_cell? w _ wo)).trans wo
           replace wn:=(HB.out.cell (World.block_lt_of_cell? w _ wn)).trans wn
           replace wm:=(HB.out.cell (World.block_lt_of_cell? w _ wm)).trans wm
           replace je:=eq_true je
           replace jb:=eq_true jb
           go_wp2_with (first|((with_reducible refine gate_dst (N:=6) rfl ?_);refine box_event ?hg (N:=6) ?hd (cs:=#[.int .i64 0,.int .i64 0,.int .i64 0,.int .i64 0,.int .i64 0,.int .i64 0,.int .i64 0,.int .i64 0,.int .i64 0,.int .i64 0]) (t:=106) ?hr ?_;(case hd=>rfl);(case hg=>rfl);(case hr=>first|(go_simp;done)|(go_simp;rfl));intro qi hg w88 hbox hb;have n0_:=Aside0.mk (blk_below (g:=qb) (o:=.cells #[.int .i64 qp,.int .i64 ql,.slice wd qf.length qv,.slice (some ue) qc.length qu,.slice qx qg.length qt,.slice qz qh.length qr] 28 (0,0)) z13x11 hb);have n1_:=Aside0.mk (below_step z13x8 hb);have n2_:=Aside0.mk (hbox);have n3_:=Aside0.mk ((z13x7 : w.heap.size ≤ qi));have n4_:=Aside0.mk ((z13x7 : w.heap.size ≤ qi));have n5_:=Aside0.mk ((z13x5 : qb ≠ qi));have n6_:=Aside0.mk ((z13x3 : qi ≠ qb));clear qa;clear HB;have qa:=n0_;have HB:=n1_;have qd:=n2_;have gt:=n3_;have js:=n4_;have qy:=n5_;have uc:=n6_;clear n0_ n1_ n2_ n3_ n4_ n5_ n6_;clear hb hbox hg;have qza:=uc.out;have qyq:=qy.out;have qnv : w88.cell? ⟨qi,0,none⟩ = some (.int .i64 0):=(blk_cell qd.out 0).trans rfl;have qnu : w88.cell? ⟨qi,1,none⟩ = some (.int .i64 0):=(blk_cell qd.out 1).trans rfl;have qnt : w88.cell? ⟨qi,2,none⟩ = some (.int .i64 0):=(blk_cell qd.out 2).trans rfl;have qns : w88.cell? ⟨qi,3,none⟩ = some (.int .i64 0):=(blk_cell qd.out 3).trans rfl;have qnr : w88.cell? ⟨qi,4,none⟩ = some (.int .i64 0):=(blk_cell qd.out 4).trans rfl;have qnq : w88.cell? ⟨qi,5,none⟩ = some (.int .i64 0):=(blk_cell qd.out 5).trans rfl;have qnp : w88.cell? ⟨qi,6,none⟩ = some (.int .i64 0):=(blk_cell qd.out 6).trans rfl;have qno : w88.cell? ⟨qi,7,none⟩ = some (.int .i64 0):=(blk_cell qd.out 7).trans rfl;have qnn : w88.cell? ⟨qi,8,none⟩ = some (.int .i64 0):=(blk_cell qd.out 8).trans rfl;have qnm : w88.cell? ⟨qi,9,none⟩ = some (.int .i64 0):=(blk_cell qd.out 9).trans rfl;have qib:=blk_frozen qd.out 0;have qia:=blk_frozen qd.out 1;have qhz:=blk_frozen qd.out 2;have qhy:=blk_frozen qd.out 3;have qhx:=blk_frozen qd.out 4;have qhw:=blk_frozen qd.out 5;have qhv:=blk_frozen qd.out 6;have qhu:=blk_frozen qd.out 7;have qht:=blk_frozen qd.out 8;have qhs:=blk_frozen qd.out 9)|((with_reducible refine gate_callee (f:=98) rfl ?_);refine goesL_ (some 73) rfl rfl Try.func98 (by kernel_rfl) rfl #[.int .i64 ((rd_T106 qc qe).f0),.int .i64 4,.int .i64 6] rfl z13x9 ?_;(with_reducible refine (spec_l6In.calls ((rd_T106 qc qe).f0) 4 6 true _ A54.out).mono ?_);rintro e w' ⟨rfl,⟨nd,rfl⟩⟩; refine ⟨_,rfl,?_⟩; have qnl : w88.cell? ⟨qb,0,none⟩ = some (.int .i64 qp):=(blk_cell qa.out 0).trans rfl;have qnk : w88.cell? ⟨qb,1,none⟩ = some (.int .i64 ql):=(blk_cell qa.out 1).trans rfl;have qnj : w88.cell? ⟨qb,2,none⟩ = some (.slice wd qf.length qv):=(blk_cell qa.out 2).trans rfl;have qni : w88.cell? ⟨qb,3,none⟩ = some (.slice (some ue) qc.length qu):=(blk_cell qa.out 3).trans rfl;have qnh : w88.cell? ⟨qb,4,none⟩ = some (.slice qx qg.length qt):=(blk_cell qa.out 4).trans rfl;have qng : w88.cell? ⟨qb,5,none⟩ = some (.slice qz qh.length qr):=(blk_cell qa.out 5).trans rfl;have qhr:=blk_frozen qa.out 0;have qhq:=blk_frozen qa.out 1;have qhp:=blk_frozen qa.out 2;have qho:=blk_frozen qa.out 3;have qhn:=blk_frozen qa.out 4;have qhm:=blk_frozen qa.out 5)|(go_at_call 114;(with_reducible refine (spec_l12Cred.calls k3 qp ql _ _ qf _ _ qc _ _ qg _ _ qh ((rd_T106 qc qe).f0) jw _ ?side1 ?side2 ?side3 ?side4 ?side5 ?side6 ?side7 ?side8 A56.out).mono ?_);(case side1=>exact Kd.C_below jr.out z13x6);(case side2=>exact gs.out);(case side3=>exact Kd.C_below jt.out z13x6);(case side4=>exact gr.out);(case side5=>exact Kd.C_below jd.out z13x6);(case side6=>exact jx.out);(case side7=>exact Kd.C_below jq.out z13x6);(case side8=>exact gf.out);rintro e w92 ⟨rfl,hb⟩; have n0_:=Aside0.mk (blk_below (g:=qb) (o:=.cells #[.int .i64 qp,.int .i64 ql,.slice wd qf.length qv,.slice (some ue) qc.length qu,.slice qx qg.length qt,.slice qz qh.length qr] 28 (0,0)) z13x1 hb);have n1_:=Aside0.mk (blk_below (g:=qi) (o:=.cells #[.int .i64 ((rd_T106 qc qe).f0),.int .i64 ((rd_T106 qc qe).f1),.int .i64 ((rd_T106 qc qe).f2),.int .i64 ((rd_T106 qc qe).f3.f0),.int .i64 ((rd_T106 qc qe).f3.f1),.int .i64 ((rd_T106 qc qe).f3.f2),.int .i64 ((rd_T106 qc qe).f3.f3),.int .i64 ((rd_T106 qc qe).f3.f4),.int .i64 ((rd_T106 qc qe).f3.f5),.int .i64 ((rd_T106 qc qe).f3.f6)] 106 (0,0)) z13x0 hb);have n2_:=Aside0.mk (below_step z13x6 hb);clear qa;clear qd;clear HB;have qa:=n0_;have qd:=n1_;have HB:=n2_;clear n0_ n1_ n2_;(try clear hb);(try clear hb2);(try clear hk);(try clear hi);have qnf : w92.cell? ⟨qi,0,none⟩ = some (.int .i64 ((rd_T106 qc qe).f0)):=(blk_cell qd.out 0).trans rfl;have qne : w92.cell? ⟨qi,1,none⟩ = some (.int .i64 ((rd_T106 qc qe).f1)):=(blk_cell qd.out 1).trans rfl;have qnd : w92.cell? ⟨qi,2,none⟩ = some (.int .i64 ((rd_T106 qc qe).f2)):=(blk_cell qd.out 2).trans rfl;have qnc : w92.cell? ⟨qi,3,none⟩ = some (.int .i64 ((rd_T106 qc qe).f3.f0)):=(blk_cell qd.out 3).trans rfl;have qnb : w92.cell? ⟨qi,4,none⟩ = some (.int .i64 ((rd_T106 qc qe).f3.f1)):=(blk_cell qd.out 4).trans rfl;have qna : w92.cell? ⟨qi,5,none⟩ = some (.int .i64 ((rd_T106 qc qe).f3.f2)):=(blk_cell qd.out 5).trans rfl;have qmz : w92.cell? ⟨qi,6,none⟩ = some (.int .i64 ((rd_T106 qc qe).f3.f3)):=(blk_cell qd.out 6).trans rfl;have qmy : w92.cell? ⟨qi,7,none⟩ = some (.int .i64 ((rd_T106 qc qe).f3.f4)):=(blk_cell qd.out 7).trans rfl;have qmx : w92.cell? ⟨qi,8,none⟩ = some (.int .i64 ((rd_T106 qc qe).f3.f5)):=(blk_cell qd.out 8).trans rfl;have qmw : w92.cell? ⟨qi,9,none⟩ = some (.int .i64 ((rd_T106 qc qe).f3.f6)):=(blk_cell qd.out 9).trans rfl;have qhl:=blk_frozen qd.out 0;have qhk:=blk_frozen qd.out 1;have qhj:=blk_frozen qd.out 2;have qhi:=blk_frozen qd.out 3;have qhh:=blk_frozen qd.out 4;have qhg:=blk_frozen qd.out 5;have qhf:=blk_frozen qd.out 6;have qhe:=blk_frozen qd.out 7;have qhd:=blk_frozen qd.out 8;have qhc:=blk_frozen qd.out 9)|(go_at_call 115;(with_reducible refine (spec_l1Session.calls ((rd_T106 qc qe).f1) false _ A58.out).mono ?_);rintro e w' ⟨rfl,⟨nd,rfl⟩⟩))
           go_ret
           exact ⟨by first|rfl|(simp [errW_none,errW_some] <;> rfl)|(simp [*,errW_none,errW_some] <;> rfl),by repeat (first|(with_reducible first|exact HB.out|apply below_alloc|apply pw_below_drewN|apply below_drew1|refine below_set ?_ vm.out|refine below_set ?_ js.out)|exact HB.out)⟩
          subst c59
          rw [if_pos rfl] at H
          replace H:=Option.bind_eq_some_iff.mp H
          obtain ⟨gh,qvx,H⟩:=H
          replace H : (if gh = true then ((spec_SealOk.f ((rd_T106 qc qe).f3.f0) ((rd_T106 qc qe).f3.f1) ((rd_T106 qc qe).f3.f2) ((rd_T106 qc qe).f3.f3) ((rd_T106 qc qe).f3.f4) ((rd_T106 qc qe).f3.f5) ((rd_T106 qc qe).f3.f6)).bind fun jy=>(if jy = true then (spec_ClientOk.l1 k3 (wrap64 (qe + 1)) qp ql qf qc qg qh) else (some false))) else (some false)) = some r:=H
          have A60:=Aside0.mk qvx
          clear qvx
          by_cases c61 : gh = true
          rotate_left
          ·replace c61:=Bool.eq_false_iff.mpr c61
           subst c61
           rw [if_neg (show ¬ (false = true) by decide)] at H
           obtain rfl:=Option.some.inj H
           have qph : wr.cell? ⟨qb,0,none⟩ = some (.int .i64 qp):=(blk_cell qa.out 0).trans rfl
           have qpg : wr.cell? ⟨qb,1,none⟩ = some (.int .i64 ql):=(blk_cell qa.out 1).trans rfl
           have qpf : wr.cell? ⟨qb,2,none⟩ = some (.slice wd qf.length qv):=(blk_cell qa.out 2).trans rfl
           have qpe : wr.cell? ⟨qb,3,none⟩ = some (.slice wg qc.length qu):=(blk_cell qa.out 3).trans rfl
           have qpd : wr.cell? ⟨qb,4,none⟩ = some (.slice qx qg.length qt):=(blk_cell qa.out 4).trans rfl
           have qpc : wr.cell? ⟨qb,5,none⟩ = some (.slice qz qh.length qr):=(blk_cell qa.out 5).trans rfl
           have qjn:=blk_frozen qa.out 0
           have qjm:=blk_frozen qa.out 1
           have qjl:=blk_frozen qa.out 2
           have qjk:=blk_frozen qa.out 3
           have qjj:=blk_frozen qa.out 4
           have qji:=blk_frozen qa.out 5
           have je : 0 ≤ (qe : Int):=of_decide_eq_true (by first|(with_reducible assumption)|assumption)
           have jb : qe < (qc.length : Int):=of_decide_eq_true (by first|(with_reducible assumption)|assumption)
           obtain ⟨ue,gc,wx,ww,wv,wu,wt,ws,wq,wo,wn,wm⟩:=at_T106 jt.out qe je jb
           cases gc
           replace wx:=(HB.out.cell (World.block_lt_of_cell? w _ wx)).trans wx
           replace ww:=(HB.out.cell (World.block_lt_of_cell? w _ ww)).trans ww
           replace wv:=(HB.out.cell (World.block_lt_of_cell? w _ wv)).trans wv
           replace wu:=(HB.out.cell (World.block_lt_of_cell? w _ wu)).trans wu
           replace wt:=(HB.out.cell (World.block_lt_of_cell? w _ wt)).trans wt
           replace ws:=(HB.out.cell (World.block_lt_of_cell? w _ ws)).trans ws
           replace wq:=(HB.out.cell (World.block_lt_of_cell? w _ wq)).trans wq
           replace wo:=(HB.out.cell (World.block_lt_of_cell? w _ wo)).trans wo
           replace wn:=(HB.out.cell (World.block_lt_of_cell? w _ wn)).trans wn
           replace wm:=(HB.out.cell (World.block_lt_of_cell? w _ wm)).trans wm
           replace je:=eq_true je
           replace jb:=eq_true jb
           go_wp2_with (first|((with_reducible refine gate_dst (N:=6) rfl ?_);refine box_event ?hg (N:=6) ?hd (cs:=#[.int .i64 0,.int .i64 0,.int .i64 0,.int .i64 0,.int .i64 0,.int .i64 0,.int .i64 0,.int .i64 0,.int .i64 0,.int .i64 0]) (t:=106) ?hr ?_;(case hd=>rfl);(case hg=>rfl);(case hr=>first|(go_simp;done)|(go_simp;rfl));intro qi hg w81 hbox hb;have n0_:=Aside0.mk (blk_below (g:=qb) (o:=.cells #[.int .i64 qp,.int .i64 ql,.slice wd qf.length qv,.slice (some ue) qc.length qu,.slice qx qg.length qt,.slice qz qh.length qr] 28 (0,0)) z13x11 hb);have n1_:=Aside0.mk (below_step z13x8 hb);have n2_:=Aside0.mk (hbox);have n3_:=Aside0.mk ((z13x7 : w.heap.size ≤ qi));have n4_:=Aside0.mk ((z13x7 : w.heap.size ≤ qi));have n5_:=Aside0.mk ((z13x5 : qb ≠ qi));have n6_:=Aside0.mk ((z13x3 : qi ≠ qb));clear qa;clear HB;have qa:=n0_;have HB:=n1_;have qd:=n2_;have gt:=n3_;have js:=n4_;have qy:=n5_;have uc:=n6_;clear n0_ n1_ n2_ n3_ n4_ n5_ n6_;clear hb hbox hg;have qzb:=uc.out;have qyr:=qy.out;have qpb : w81.cell? ⟨qi,0,none⟩ = some (.int .i64 0):=(blk_cell qd.out 0).trans rfl;have qpa : w81.cell? ⟨qi,1,none⟩ = some (.int .i64 0):=(blk_cell qd.out 1).trans rfl;have qoz : w81.cell? ⟨qi,2,none⟩ = some (.int .i64 0):=(blk_cell qd.out 2).trans rfl;have qoy : w81.cell? ⟨qi,3,none⟩ = some (.int .i64 0):=(blk_cell qd.out 3).trans rfl;have qox : w81.cell? ⟨qi,4,none⟩ = some (.int .i64 0):=(blk_cell qd.out 4).trans rfl;have qow : w81.cell? ⟨qi,5,none⟩ = some (.int .i64 0):=(blk_cell qd.out 5).trans rfl;have qov : w81.cell? ⟨qi,6,none⟩ = some (.int .i64 0):=(blk_cell qd.out 6).trans rfl;have qou : w81.cell? ⟨qi,7,none⟩ = some (.int .i64 0):=(blk_cell qd.out 7).trans rfl;have qot : w81.cell? ⟨qi,8,none⟩ = some (.int .i64 0):=(blk_cell qd.out 8).trans rfl;have qos : w81.cell? ⟨qi,9,none⟩ = some (.int .i64 0):=(blk_cell qd.out 9).trans rfl;have qjh:=blk_frozen qd.out 0;have qjg:=blk_frozen qd.out 1;have qjf:=blk_frozen qd.out 2;have qje:=blk_frozen qd.out 3;have qjd:=blk_frozen qd.out 4;have qjc:=blk_frozen qd.out 5;have qjb:=blk_frozen qd.out 6;have qja:=blk_frozen qd.out 7;have qiz:=blk_frozen qd.out 8;have qiy:=blk_frozen qd.out 9)|((with_reducible refine gate_callee (f:=98) rfl ?_);refine goesL_ (some 73) rfl rfl Try.func98 (by kernel_rfl) rfl #[.int .i64 ((rd_T106 qc qe).f0),.int .i64 4,.int .i64 6] rfl z13x9 ?_;(with_reducible refine (spec_l6In.calls ((rd_T106 qc qe).f0) 4 6 true _ A54.out).mono ?_);rintro e w' ⟨rfl,⟨nd,rfl⟩⟩; refine ⟨_,rfl,?_⟩; have qor : w81.cell? ⟨qb,0,none⟩ = some (.int .i64 qp):=(blk_cell qa.out 0).trans rfl;have qoq : w81.cell? ⟨qb,1,none⟩ = some (.int .i64 ql):=(blk_cell qa.out 1).trans rfl;have qop : w81.cell? ⟨qb,2,none⟩ = some (.slice wd qf.length qv):=(blk_cell qa.out 2).trans rfl;have qoo : w81.cell? ⟨qb,3,none⟩ = some (.slice (some ue) qc.length qu):=(blk_cell qa.out 3).trans rfl;have qon : w81.cell? ⟨qb,4,none⟩ = some (.slice qx qg.length qt):=(blk_cell qa.out 4).trans rfl;have qom : w81.cell? ⟨qb,5,none⟩ = some (.slice qz qh.length qr):=(blk_cell qa.out 5).trans rfl;have qix:=blk_frozen qa.out 0;have qiw:=blk_frozen qa.out 1;have qiv:=blk_frozen qa.out 2;have qiu:=blk_frozen qa.out 3;have qit:=blk_frozen qa.out 4;have qis:=blk_frozen qa.out 5)|(go_at_call 114;(with_reducible refine (spec_l12Cred.calls k3 qp ql _ _ qf _ _ qc _ _ qg _ _ qh ((rd_T106 qc qe).f0) jw _ ?side1 ?side2 ?side3 ?side4 ?side5 ?side6 ?side7 ?side8 A56.out).mono ?_);(case side1=>exact Kd.C_below jr.out z13x6);(case side2=>exact gs.out);(case side3=>exact Kd.C_below jt.out z13x6);(case side4=>exact gr.out);(case side5=>exact Kd.C_below jd.out z13x6);(case side6=>exact jx.out);(case side7=>exact Kd.C_below jq.out z13x6);(case side8=>exact gf.out);rintro e w85 ⟨rfl,hb⟩; have n0_:=Aside0.mk (blk_below (g:=qb) (o:=.cells #[.int .i64 qp,.int .i64 ql,.slice wd qf.length qv,.slice (some ue) qc.length qu,.slice qx qg.length qt,.slice qz qh.length qr] 28 (0,0)) z13x1 hb);have n1_:=Aside0.mk (blk_below (g:=qi) (o:=.cells #[.int .i64 ((rd_T106 qc qe).f0),.int .i64 ((rd_T106 qc qe).f1),.int .i64 ((rd_T106 qc qe).f2),.int .i64 ((rd_T106 qc qe).f3.f0),.int .i64 ((rd_T106 qc qe).f3.f1),.int .i64 ((rd_T106 qc qe).f3.f2),.int .i64 ((rd_T106 qc qe).f3.f3),.int .i64 ((rd_T106 qc qe).f3.f4),.int .i64 ((rd_T106 qc qe).f3.f5),.int .i64 ((rd_T106 qc qe).f3.f6)] 106 (0,0)) z13x0 hb);have n2_:=Aside0.mk (below_step z13x6 hb);clear qa;clear qd;clear HB;have qa:=n0_;have qd:=n1_;have HB:=n2_;clear n0_ n1_ n2_;(try clear hb);(try clear hb2);(try clear hk);(try clear hi);have qol : w85.cell? ⟨qi,0,none⟩ = some (.int .i64 ((rd_T106 qc qe).f0)):=(blk_cell qd.out 0).trans rfl;have qok : w85.cell? ⟨qi,1,none⟩ = some (.int .i64 ((rd_T106 qc qe).f1)):=(blk_cell qd.out 1).trans rfl;have qoj : w85.cell? ⟨qi,2,none⟩ = some (.int .i64 ((rd_T106 qc qe).f2)):=(blk_cell qd.out 2).trans rfl;have qoi : w85.cell? ⟨qi,3,none⟩ = some (.int .i64 ((rd_T106 qc qe).f3.f0)):=(blk_cell qd.out 3).trans rfl;have qoh : w85.cell? ⟨qi,4,none⟩ = some (.int .i64 ((rd_T106 qc qe).f3.f1)):=(blk_cell qd.out 4).trans rfl;have qog : w85.cell? ⟨qi,5,none⟩ = some (.int .i64 ((rd_T106 qc qe).f3.f2)):=(blk_cell qd.out 5).trans rfl;have qof : w85.cell? ⟨qi,6,none⟩ = some (.int .i64 ((rd_T106 qc qe).f3.f3)):=(blk_cell qd.out 6).trans rfl;have qoe : w85.cell? ⟨qi,7,none⟩ = some (.int .i64 ((rd_T106 qc qe).f3.f4)):=(blk_cell qd.out 7).trans rfl;have qod : w85.cell? ⟨qi,8,none⟩ = some (.int .i64 ((rd_T106 qc qe).f3.f5)):=(blk_cell qd.out 8).trans rfl;have qoc : w85.cell? ⟨qi,9,none⟩ = some (.int .i64 ((rd_T106 qc qe).f3.f6)):=(blk_cell qd.out 9).trans rfl;have qir:=blk_frozen qd.out 0;have qiq:=blk_frozen qd.out 1;have qip:=blk_frozen qd.out 2;have qio:=blk_frozen qd.out 3;have qin:=blk_frozen qd.out 4;have qim:=blk_frozen qd.out 5;have qil:=blk_frozen qd.out 6;have qik:=blk_frozen qd.out 7;have qij:=blk_frozen qd.out 8;have qii:=blk_frozen qd.out 9)|(go_at_call 115;(with_reducible refine (spec_l1Session.calls ((rd_T106 qc qe).f1) true _ A58.out).mono ?_);rintro e w' ⟨rfl,⟨nd,rfl⟩⟩)|(go_at_call 93;(with_reducible refine (spec_l1Time.calls ((rd_T106 qc qe).f2) false _ A60.out).mono ?_);rintro e w' ⟨rfl,⟨nd,rfl⟩⟩))
           go_ret
           exact ⟨by first|rfl|(simp [errW_none,errW_some] <;> rfl)|(simp [*,errW_none,errW_some] <;> rfl),by repeat (first|(with_reducible first|exact HB.out|apply below_alloc|apply pw_below_drewN|apply below_drew1|refine below_set ?_ vm.out|refine below_set ?_ js.out)|exact HB.out)⟩
          subst c61
          rw [if_pos rfl] at H
          replace H:=Option.bind_eq_some_iff.mp H
          obtain ⟨jy,qvw,H⟩:=H
          replace H : (if jy = true then (spec_ClientOk.l1 k3 (wrap64 (qe + 1)) qp ql qf qc qg qh) else (some false)) = some r:=H
          have A62:=Aside0.mk qvw
          clear qvw
          by_cases c63 : jy = true
          rotate_left
          ·replace c63:=Bool.eq_false_iff.mpr c63
           subst c63
           rw [if_neg (show ¬ (false = true) by decide)] at H
           obtain rfl:=Option.some.inj H
           have qqn : wr.cell? ⟨qb,0,none⟩ = some (.int .i64 qp):=(blk_cell qa.out 0).trans rfl
           have qqm : wr.cell? ⟨qb,1,none⟩ = some (.int .i64 ql):=(blk_cell qa.out 1).trans rfl
           have qql : wr.cell? ⟨qb,2,none⟩ = some (.slice wd qf.length qv):=(blk_cell qa.out 2).trans rfl
           have qqk : wr.cell? ⟨qb,3,none⟩ = some (.slice wg qc.length qu):=(blk_cell qa.out 3).trans rfl
           have qqj : wr.cell? ⟨qb,4,none⟩ = some (.slice qx qg.length qt):=(blk_cell qa.out 4).trans rfl
           have qqi : wr.cell? ⟨qb,5,none⟩ = some (.slice qz qh.length qr):=(blk_cell qa.out 5).trans rfl
           have qkt:=blk_frozen qa.out 0
           have qks:=blk_frozen qa.out 1
           have qkr:=blk_frozen qa.out 2
           have qkq:=blk_frozen qa.out 3
           have qkp:=blk_frozen qa.out 4
           have qko:=blk_frozen qa.out 5
           have je : 0 ≤ (qe : Int):=of_decide_eq_true (by first|(with_reducible assumption)|assumption)
           have jb : qe < (qc.length : Int):=of_decide_eq_true (by first|(with_reducible assumption)|assumption)
           obtain ⟨ue,gc,wx,ww,wv,wu,wt,ws,wq,wo,wn,wm⟩:=at_T106 jt.out qe je jb
           cases gc
           replace wx:=(HB.out.cell (World.block_lt_of_cell? w _ wx)).trans wx
           replace ww:=(HB.out.cell (World.block_lt_of_cell? w _ ww)).trans ww
           replace wv:=(HB.out.cell (World.block_lt_of_cell? w _ wv)).trans wv
           replace wu:=(HB.out.cell (World.block_lt_of_cell? w _ wu)).trans wu
           replace wt:=(HB.out.cell (World.block_lt_of_cell? w _ wt)).trans wt
           replace ws:=(HB.out.cell (World.block_lt_of_cell? w _ ws)).trans ws
           replace wq:=(HB.out.cell (World.block_lt_of_cell? w _ wq)).trans wq
           replace wo:=(HB.out.cell (World.block_lt_of_cell? w _ wo)).trans wo
           replace wn:=(HB.out.cell (World.block_lt_of_cell? w _ wn)).trans wn
           replace wm:=(HB.out.cell (World.block_lt_of_cell? w _ wm)).trans wm
           replace je:=eq_true je
           replace jb:=eq_true jb
           go_wp2_with (first|((with_reducible refine gate_dst (N:=6) rfl ?_);refine box_event ?hg (N:=6) ?hd (cs:=#[.int .i64 0,.int .i64 0,.int .i64 0,.int .i64 0,.int .i64 0,.int .i64 0,.int .i64 0,.int .i64 0,.int .i64 0,.int .i64 0]) (t:=106) ?hr ?_;(case hd=>rfl);(case hg=>rfl);(case hr=>first|(go_simp;done)|(go_simp;rfl));intro qi hg w73 hbox hb;have n0_:=Aside0.mk (blk_below (g:=qb) (o:=.cells #[.int .i64 qp,.int .i64 ql,.slice wd qf.length qv,.slice (some ue) qc.length qu,.slice qx qg.length qt,.slice qz qh.length qr] 28 (0,0)) z13x11 hb);have n1_:=Aside0.mk (below_step z13x8 hb);have n2_:=Aside0.mk (hbox);have n3_:=Aside0.mk ((z13x7 : w.heap.size ≤ qi));have n4_:=Aside0.mk ((z13x7 : w.heap.size ≤ qi));have n5_:=Aside0.mk ((z13x5 : qb ≠ qi));have n6_:=Aside0.mk ((z13x3 : qi ≠ qb));clear qa;clear HB;have qa:=n0_;have HB:=n1_;have qd:=n2_;have gt:=n3_;have js:=n4_;have qy:=n5_;have uc:=n6_;clear n0_ n1_ n2_ n3_ n4_ n5_ n6_;clear hb hbox hg;have qzc:=uc.out;have qys:=qy.out;have qqh : w73.cell? ⟨qi,0,none⟩ = some (.int .i64 0):=(blk_cell qd.out 0).trans rfl;have qqg : w73.cell? ⟨qi,1,none⟩ = some (.int .i64 0):=(blk_cell qd.out 1).trans rfl;have qqf : w73.cell? ⟨qi,2,none⟩ = some (.int .i64 0):=(blk_cell qd.out 2).trans rfl;have qqe : w73.cell? ⟨qi,3,none⟩ = some (.int .i64 0):=(blk_cell qd.out 3).trans rfl;have qqd : w73.cell? ⟨qi,4,none⟩ = some (.int .i64 0):=(blk_cell qd.out 4).trans rfl;have qqc : w73.cell? ⟨qi,5,none⟩ = some (.int .i64 0):=(blk_cell qd.out 5).trans rfl;have qqb : w73.cell? ⟨qi,6,none⟩ = some (.int .i64 0):=(blk_cell qd.out 6).trans rfl;have qqa : w73.cell? ⟨qi,7,none⟩ = some (.int .i64 0):=(blk_cell qd.out 7).trans rfl;have qpz : w73.cell? ⟨qi,8,none⟩ = some (.int .i64 0):=(blk_cell qd.out 8).trans rfl;have qpy : w73.cell? ⟨qi,9,none⟩ = some (.int .i64 0):=(blk_cell qd.out 9).trans rfl;have qkn:=blk_frozen qd.out 0;have qkm:=blk_frozen qd.out 1;have qkl:=blk_frozen qd.out 2;have qkk:=blk_frozen qd.out 3;have qkj:=blk_frozen qd.out 4;have qki:=blk_frozen qd.out 5;have qkh:=blk_frozen qd.out 6;have qkg:=blk_frozen qd.out 7;have qkf:=blk_frozen qd.out 8;have qke:=blk_frozen qd.out 9)|((with_reducible refine gate_callee (f:=98) rfl ?_);refine goesL_ (some 73) rfl rfl Try.func98 (by kernel_rfl) rfl #[.int .i64 ((rd_T106 qc qe).f0),.int .i64 4,.int .i64 6] rfl z13x9 ?_;(with_reducible refine (spec_l6In.calls ((rd_T106 qc qe).f0) 4 6 true _ A54.out).mono ?_);rintro e w' ⟨rfl,⟨nd,rfl⟩⟩; refine ⟨_,rfl,?_⟩; have qpx : w73.cell? ⟨qb,0,none⟩ = some (.int .i64 qp):=(blk_cell qa.out 0).trans rfl;have qpw : w73.cell? ⟨qb,1,none⟩ = some (.int .i64 ql):=(blk_cell qa.out 1).trans rfl;have qpv : w73.cell? ⟨qb,2,none⟩ = some (.slice wd qf.length qv):=(blk_cell qa.out 2).trans rfl;have qpu : w73.cell? ⟨qb,3,none⟩ = some (.slice (some ue) qc.length qu):=(blk_cell qa.out 3).trans rfl;have qpt : w73.cell? ⟨qb,4,none⟩ = some (.slice qx qg.length qt):=(blk_cell qa.out 4).trans rfl;have qps : w73.cell? ⟨qb,5,none⟩ = some (.slice qz qh.length qr):=(blk_cell qa.out 5).trans rfl;have qkd:=blk_frozen qa.out 0;have qkc:=blk_frozen qa.out 1;have qkb:=blk_frozen qa.out 2;have qka:=blk_frozen qa.out 3;have qjz:=blk_frozen qa.out 4;have qjy:=blk_frozen qa.out 5)|(go_at_call 114;(with_reducible refine (spec_l12Cred.calls k3 qp ql _ _ qf _ _ qc _ _ qg _ _ qh ((rd_T106 qc qe).f0) jw _ ?side1 ?side2 ?side3 ?side4 ?side5 ?side6 ?side7 ?side8 A56.out).mono ?_);(case side1=>exact Kd.C_below jr.out z13x6);(case side2=>exact gs.out);(case side3=>exact Kd.C_below jt.out z13x6);(case side4=>exact gr.out);(case side5=>exact Kd.C_below jd.out z13x6);(case side6=>exact jx.out);(case side7=>exact Kd.C_below jq.out z13x6);(case side8=>exact gf.out);rintro e w77 ⟨rfl,hb⟩; have n0_:=Aside0.mk (blk_below (g:=qb) (o:=.cells #[.int .i64 qp,.int .i64 ql,.slice wd qf.length qv,.slice (some ue) qc.length qu,.slice qx qg.length qt,.slice qz qh.length qr] 28 (0,0)) z13x1 hb);have n1_:=Aside0.mk (blk_below (g:=qi) (o:=.cells #[.int .i64 ((rd_T106 qc qe).f0),.int .i64 ((rd_T106 qc qe).f1),.int .i64 ((rd_T106 qc qe).f2),.int .i64 ((rd_T106 qc qe).f3.f0),.int .i64 ((rd_T106 qc qe).f3.f1),.int .i64 ((rd_T106 qc qe).f3.f2),.int .i64 ((rd_T106 qc qe).f3.f3),.int .i64 ((rd_T106 qc qe).f3.f4),.int .i64 ((rd_T106 qc qe).f3.f5),.int .i64 ((rd_T106 qc qe).f3.f6)] 106 (0,0)) z13x0 hb);have n2_:=Aside0.mk (below_step z13x6 hb);clear qa;clear qd;clear HB;have qa:=n0_;have qd:=n1_;have HB:=n2_;clear n0_ n1_ n2_;(try clear hb);(try clear hb2);(try clear hk);(try clear hi);have qpr : w77.cell? ⟨qi,0,none⟩ = some (.int .i64 ((rd_T106 qc qe).f0)):=(blk_cell qd.out 0).trans rfl;have qpq : w77.cell? ⟨qi,1,none⟩ = some (.int .i64 ((rd_T106 qc qe).f1)):=(blk_cell qd.out 1).trans rfl;have qpp : w77.cell? ⟨qi,2,none⟩ = some (.int .i64 ((rd_T106 qc qe).f2)):=(blk_cell qd.out 2).trans rfl;have qpo : w77.cell? ⟨qi,3,none⟩ = some (.int .i64 ((rd_T106 qc qe).f3.f0)):=(blk_cell qd.out 3).trans rfl;have qpn : w77.cell? ⟨qi,4,none⟩ = some (.int .i64 ((rd_T106 qc qe).f3.f1)):=(blk_cell qd.out 4).trans rfl;have qpm : w77.cell? ⟨qi,5,none⟩ = some (.int .i64 ((rd_T106 qc qe).f3.f2)):=(blk_cell qd.out 5).trans rfl;have qpl : w77.cell? ⟨qi,6,none⟩ = some (.int .i64 ((rd_T106 qc qe).f3.f3)):=(blk_cell qd.out 6).trans rfl;have qpk : w77.cell? ⟨qi,7,none⟩ = some (.int .i64 ((rd_T106 qc qe).f3.f4)):=(blk_cell qd.out 7).trans rfl;have qpj : w77.cell? ⟨qi,8,none⟩ = some (.int .i64 ((rd_T106 qc qe).f3.f5)):=(blk_cell qd.out 8).trans rfl;have qpi : w77.cell? ⟨qi,9,none⟩ = some (.int .i64 ((rd_T106 qc qe).f3.f6)):=(blk_cell qd.out 9).trans rfl;have qjx:=blk_frozen qd.out 0;have qjw:=blk_frozen qd.out 1;have qjv:=blk_frozen qd.out 2;have qju:=blk_frozen qd.out 3;have qjt:=blk_frozen qd.out 4;have qjs:=blk_frozen qd.out 5;have qjr:=blk_frozen qd.out 6;have qjq:=blk_frozen qd.out 7;have qjp:=blk_frozen qd.out 8;have qjo:=blk_frozen qd.out 9)|(go_at_call 115;(with_reducible refine (spec_l1Session.calls ((rd_T106 qc qe).f1) true _ A58.out).mono ?_);rintro e w' ⟨rfl,⟨nd,rfl⟩⟩)|(go_at_call 93;(with_reducible refine (spec_l1Time.calls ((rd_T106 qc qe).f2) true _ A60.out).mono ?_);rintro e w' ⟨rfl,⟨nd,rfl⟩⟩)|(go_at_call 90;(with_reducible refine (spec_SealOk.calls ((rd_T106 qc qe).f3.f0) ((rd_T106 qc qe).f3.f1) ((rd_T106 qc qe).f3.f2) ((rd_T106 qc qe).f3.f3) ((rd_T106 qc qe).f3.f4) ((rd_T106 qc qe).f3.f5) ((rd_T106 qc qe).f3.f6) false _ A62.out).mono ?_);rintro e w79 ⟨rfl,hb⟩; have n0_:=Aside0.mk (blk_below (g:=qb) (o:=.cells #[.int .i64 qp,.int .i64 ql,.slice wd qf.length qv,.slice (some ue) qc.length qu,.slice qx qg.length qt,.slice qz qh.length qr] 28 (0,0)) z13x11 hb);have n1_:=Aside0.mk (blk_below (g:=qi) (o:=.cells #[.int .i64 ((rd_T106 qc qe).f0),.int .i64 ((rd_T106 qc qe).f1),.int .i64 ((rd_T106 qc qe).f2),.int .i64 ((rd_T106 qc qe).f3.f0),.int .i64 ((rd_T106 qc qe).f3.f1),.int .i64 ((rd_T106 qc qe).f3.f2),.int .i64 ((rd_T106 qc qe).f3.f3),.int .i64 ((rd_T106 qc qe).f3.f4),.int .i64 ((rd_T106 qc qe).f3.f5),.int .i64 ((rd_T106 qc qe).f3.f6)] 106 (0,0)) (by (with_reducible repeat (first|refine blk_drewN ?_ _|refine blk_drew ?_|refine blk_alloc ?_ _));exact qd.out) hb);have n2_:=Aside0.mk (below_step z13x6 hb);clear qa;clear qd;clear HB;have qa:=n0_;have qd:=n1_;have HB:=n2_;clear n0_ n1_ n2_;(try clear hb);(try clear hb2);(try clear hk);(try clear hi)))
           go_ret
           exact ⟨by first|rfl|(simp [errW_none,errW_some] <;> rfl)|(simp [*,errW_none,errW_some] <;> rfl),by repeat (first|(with_reducible first|exact HB.out|apply below_alloc|apply pw_below_drewN|apply below_drew1|refine below_set ?_ vm.out|refine below_set ?_ js.out)|exact HB.out)⟩
          subst c63
          rw [if_pos rfl] at H
          have H':=Aside0.mk H
          clear H
          have qrt : wr.cell? ⟨qb,0,none⟩ = some (.int .i64 qp):=(blk_cell qa.out 0).trans rfl
          have qrs : wr.cell? ⟨qb,1,none⟩ = some (.int .i64 ql):=(blk_cell qa.out 1).trans rfl
          have qrr : wr.cell? ⟨qb,2,none⟩ = some (.slice wd qf.length qv):=(blk_cell qa.out 2).trans rfl
          have qrq : wr.cell? ⟨qb,3,none⟩ = some (.slice wg qc.length qu):=(blk_cell qa.out 3).trans rfl
          have qrp : wr.cell? ⟨qb,4,none⟩ = some (.slice qx qg.length qt):=(blk_cell qa.out 4).trans rfl
          have qro : wr.cell? ⟨qb,5,none⟩ = some (.slice qz qh.length qr):=(blk_cell qa.out 5).trans rfl
          have qlz:=blk_frozen qa.out 0
          have qly:=blk_frozen qa.out 1
          have qlx:=blk_frozen qa.out 2
          have qlw:=blk_frozen qa.out 3
          have qlv:=blk_frozen qa.out 4
          have qlu:=blk_frozen qa.out 5
          have je : 0 ≤ (qe : Int):=of_decide_eq_true (by first|(with_reducible assumption)|assumption)
          have jb : qe < (qc.length : Int):=of_decide_eq_true (by first|(with_reducible assumption)|assumption)
          obtain ⟨ue,gc,wx,ww,wv,wu,wt,ws,wq,wo,wn,wm⟩:=at_T106 jt.out qe je jb
          cases gc
          replace wx:=(HB.out.cell (World.block_lt_of_cell? w _ wx)).trans wx
          replace ww:=(HB.out.cell (World.block_lt_of_cell? w _ ww)).trans ww
          replace wv:=(HB.out.cell (World.block_lt_of_cell? w _ wv)).trans wv
          replace wu:=(HB.out.cell (World.block_lt_of_cell? w _ wu)).trans wu
          replace wt:=(HB.out.cell (World.block_lt_of_cell? w _ wt)).trans wt
          replace ws:=(HB.out.cell (World.block_lt_of_cell? w _ ws)).trans ws
          replace wq:=(HB.out.cell (World.block_lt_of_cell? w _ wq)).trans wq
          replace wo:=(HB.out.cell (World.block_lt_of_cell? w _ wo)).trans wo
          replace wn:=(HB.out.cell (World.block_lt_of_cell? w _ wn)).trans wn
          replace wm:=(HB.out.cell (World.block_lt_of_cell? w _ wm)).trans wm
          replace je:=eq_true je
          replace jb:=eq_true jb
          go_wp2_with (first|((with_reducible refine gate_dst (N:=6) rfl ?_);refine box_event ?hg (N:=6) ?hd (cs:=#[.int .i64 0,.int .i64 0,.int .i64 0,.int .i64 0,.int .i64 0,.int .i64 0,.int .i64 0,.int .i64 0,.int .i64 0,.int .i64 0]) (t:=106) ?hr ?_;(case hd=>rfl);(case hg=>rfl);(case hr=>first|(go_simp;done)|(go_simp;rfl));intro qi hg w65 hbox hb;have n0_:=Aside0.mk (blk_below (g:=qb) (o:=.cells #[.int .i64 qp,.int .i64 ql,.slice wd qf.length qv,.slice (some ue) qc.length qu,.slice qx qg.length qt,.slice qz qh.length qr] 28 (0,0)) z13x11 hb);have n1_:=Aside0.mk (below_step z13x8 hb);have n2_:=Aside0.mk (hbox);have n3_:=Aside0.mk ((z13x7 : w.heap.size ≤ qi));have n4_:=Aside0.mk ((z13x7 : w.heap.size ≤ qi));have n5_:=Aside0.mk ((z13x5 : qb ≠ qi));have n6_:=Aside0.mk ((z13x3 : qi ≠ qb));clear qa;clear HB;have qa:=n0_;have HB:=n1_;have qd:=n2_;have gt:=n3_;have js:=n4_;have qy:=n5_;have uc:=n6_;clear n0_ n1_ n2_ n3_ n4_ n5_ n6_;clear hb hbox hg;have qzd:=uc.out;have qyt:=qy.out;have qrn : w65.cell? ⟨qi,0,none⟩ = some (.int .i64 0):=(blk_cell qd.out 0).trans rfl;have qrm : w65.cell? ⟨qi,1,none⟩ = some (.int .i64 0):=(blk_cell qd.out 1).trans rfl;have qrl : w65.cell? ⟨qi,2,none⟩ = some (.int .i64 0):=(blk_cell qd.out 2).trans rfl;have qrk : w65.cell? ⟨qi,3,none⟩ = some (.int .i64 0):=(blk_cell qd.out 3).trans rfl;have qrj : w65.cell? ⟨qi,4,none⟩ = some (.int .i64 0):=(blk_cell qd.out 4).trans rfl;have qri : w65.cell? ⟨qi,5,none⟩ = some (.int .i64 0):=(blk_cell qd.out 5).trans rfl;have qrh : w65.cell? ⟨qi,6,none⟩ = some (.int .i64 0):=(blk_cell qd.out 6).trans rfl;have qrg : w65.cell? ⟨qi,7,none⟩ = some (.int .i64 0):=(blk_cell qd.out 7).trans rfl;have qrf : w65.cell? ⟨qi,8,none⟩ = some (.int .i64 0):=(blk_cell qd.out 8).trans rfl;have qre : w65.cell? ⟨qi,9,none⟩ = some (.int .i64 0):=(blk_cell qd.out 9).trans rfl;have qlt:=blk_frozen qd.out 0;have qls:=blk_frozen qd.out 1;have qlr:=blk_frozen qd.out 2;have qlq:=blk_frozen qd.out 3;have qlp:=blk_frozen qd.out 4;have qlo:=blk_frozen qd.out 5;have qln:=blk_frozen qd.out 6;have qlm:=blk_frozen qd.out 7;have qll:=blk_frozen qd.out 8;have qlk:=blk_frozen qd.out 9)|((with_reducible refine gate_callee (f:=98) rfl ?_);refine goesL_ (some 73) rfl rfl Try.func98 (by kernel_rfl) rfl #[.int .i64 ((rd_T106 qc qe).f0),.int .i64 4,.int .i64 6] rfl z13x9 ?_;(with_reducible refine (spec_l6In.calls ((rd_T106 qc qe).f0) 4 6 true _ A54.out).mono ?_);rintro e w' ⟨rfl,⟨nd,rfl⟩⟩; refine ⟨_,rfl,?_⟩; have qrd : w65.cell? ⟨qb,0,none⟩ = some (.int .i64 qp):=(blk_cell qa.out 0).trans rfl;have qrc : w65.cell? ⟨qb,1,none⟩ = some (.int .i64 ql):=(blk_cell qa.out 1).trans rfl;have qrb : w65.cell? ⟨qb,2,none⟩ = some (.slice wd qf.length qv):=(blk_cell qa.out 2).trans rfl;have qra : w65.cell? ⟨qb,3,none⟩ = some (.slice (some ue) qc.length qu):=(blk_cell qa.out 3).trans rfl;have qqz : w65.cell? ⟨qb,4,none⟩ = some (.slice qx qg.length qt):=(blk_cell qa.out 4).trans rfl;have qqy : w65.cell? ⟨qb,5,none⟩ = some (.slice qz qh.length qr):=(blk_cell qa.out 5).trans rfl;have qlj:=blk_frozen qa.out 0;have qli:=blk_frozen qa.out 1;have qlh:=blk_frozen qa.out 2;have qlg:=blk_frozen qa.out 3;have qlf:=blk_frozen qa.out 4;have qle:=blk_frozen qa.out 5)|(go_at_call 114;(with_reducible refine (spec_l12Cred.calls k3 qp ql _ _ qf _ _ qc _ _ qg _ _ qh ((rd_T106 qc qe).f0) jw _ ?side1 ?side2 ?side3 ?side4 ?side5 ?side6 ?side7 ?side8 A56.out).mono ?_);(case side1=>exact Kd.C_below jr.out z13x6);(case side2=>exact gs.out);(case side3=>exact Kd.C_below jt.out z13x6);(case side4=>exact gr.out);(case side5=>exact Kd.C_below jd.out z13x6);(case side6=>exact jx.out);(case side7=>exact Kd.C_below jq.out z13x6);(case side8=>exact gf.out);rintro e w69 ⟨rfl,hb⟩; have n0_:=Aside0.mk (blk_below (g:=qb) (o:=.cells #[.int .i64 qp,.int .i64 ql,.slice wd qf.length qv,.slice (some ue) qc.length qu,.slice qx qg.length qt,.slice qz qh.length qr] 28 (0,0)) z13x1 hb);have n1_:=Aside0.mk (blk_below (g:=qi) (o:=.cells #[.int .i64 ((rd_T106 qc qe).f0),.int .i64 ((rd_T106 qc qe).f1),.int .i64 ((rd_T106 qc qe).f2),.int .i64 ((rd_T106 qc qe).f3.f0),.int .i64 ((rd_T106 qc qe).f3.f1),.int .i64 ((rd_T106 qc qe).f3.f2),.int .i64 ((rd_T106 qc qe).f3.f3),.int .i64 ((rd_T106 qc qe).f3.f4),.int .i64 ((rd_T106 qc qe).f3.f5),.int .i64 ((rd_T106 qc qe).f3.f6)] 106 (0,0)) z13x0 hb);have n2_:=Aside0.mk (below_step z13x6 hb);clear qa;clear qd;clear HB;have qa:=n0_;have qd:=n1_;have HB:=n2_;clear n0_ n1_ n2_;(try clear hb);(try clear hb2);(try clear hk);(try clear hi);have qqx : w69.cell? ⟨qi,0,none⟩ = some (.int .i64 ((rd_T106 qc qe).f0)):=(blk_cell qd.out 0).trans rfl;have qqw : w69.cell? ⟨qi,1,none⟩ = some (.int .i64 ((rd_T106 qc qe).f1)):=(blk_cell qd.out 1).trans rfl;have qqv : w69.cell? ⟨qi,2,none⟩ = some (.int .i64 ((rd_T106 qc qe).f2)):=(blk_cell qd.out 2).trans rfl;have qqu : w69.cell? ⟨qi,3,none⟩ = some (.int .i64 ((rd_T106 qc qe).f3.f0)):=(blk_cell qd.out 3).trans rfl;have qqt : w69.cell? ⟨qi,4,none⟩ = some (.int .i64 ((rd_T106 qc qe).f3.f1)):=(blk_cell qd.out 4).trans rfl;have qqs : w69.cell? ⟨qi,5,none⟩ = some (.int .i64 ((rd_T106 qc qe).f3.f2)):=(blk_cell qd.out 5).trans rfl;have qqr : w69.cell? ⟨qi,6,none⟩ = some (.int .i64 ((rd_T106 qc qe).f3.f3)):=(blk_cell qd.out 6).trans rfl;have qqq : w69.cell? ⟨qi,7,none⟩ = some (.int .i64 ((rd_T106 qc qe).f3.f4)):=(blk_cell qd.out 7).trans rfl;have qqp : w69.cell? ⟨qi,8,none⟩ = some (.int .i64 ((rd_T106 qc qe).f3.f5)):=(blk_cell qd.out 8).trans rfl;have qqo : w69.cell? ⟨qi,9,none⟩ = some (.int .i64 ((rd_T106 qc qe).f3.f6)):=(blk_cell qd.out 9).trans rfl;have qld:=blk_frozen qd.out 0;have qlc:=blk_frozen qd.out 1;have qlb:=blk_frozen qd.out 2;have qla:=blk_frozen qd.out 3;have qkz:=blk_frozen qd.out 4;have qky:=blk_frozen qd.out 5;have qkx:=blk_frozen qd.out 6;have qkw:=blk_frozen qd.out 7;have qkv:=blk_frozen qd.out 8;have qku:=blk_frozen qd.out 9)|(go_at_call 115;(with_reducible refine (spec_l1Session.calls ((rd_T106 qc qe).f1) true _ A58.out).mono ?_);rintro e w' ⟨rfl,⟨nd,rfl⟩⟩)|(go_at_call 93;(with_reducible refine (spec_l1Time.calls ((rd_T106 qc qe).f2) true _ A60.out).mono ?_);rintro e w' ⟨rfl,⟨nd,rfl⟩⟩)|(go_at_call 90;(with_reducible refine (spec_SealOk.calls ((rd_T106 qc qe).f3.f0) ((rd_T106 qc qe).f3.f1) ((rd_T106 qc qe).f3.f2) ((rd_T106 qc qe).f3.f3) ((rd_T106 qc qe).f3.f4) ((rd_T106 qc qe).f3.f5) ((rd_T106 qc qe).f3.f6) true _ A62.out).mono ?_);rintro e w71 ⟨rfl,hb⟩; have n0_:=Aside0.mk (blk_below (g:=qb) (o:=.cells #[.int .i64 qp,.int .i64 ql,.slice wd qf.length qv,.slice (some ue) qc.length qu,.slice qx qg.length qt,.slice qz qh.length qr] 28 (0,0)) z13x11 hb);have n1_:=Aside0.mk (blk_below (g:=qi) (o:=.cells #[.int .i64 ((rd_T106 qc qe).f0),.int .i64 ((rd_T106 qc qe).f1),.int .i64 ((rd_T106 qc qe).f2),.int .i64 ((rd_T106 qc qe).f3.f0),.int .i64 ((rd_T106 qc qe).f3.f1),.int .i64 ((rd_T106 qc qe).f3.f2),.int .i64 ((rd_T106 qc qe).f3.f3),.int .i64 ((rd_T106 qc qe).f3.f4),.int .i64 ((rd_T106 qc qe).f3.f5),.int .i64 ((rd_T106 qc qe).f3.f6)] 106 (0,0)) (by (with_reducible repeat (first|refine blk_drewN ?_ _|refine blk_drew ?_|refine blk_alloc ?_ _));exact qd.out) hb);have n2_:=Aside0.mk (below_step z13x6 hb);clear qa;clear qd;clear HB;have qa:=n0_;have qd:=n1_;have HB:=n2_;clear n0_ n1_ n2_;(try clear hb);(try clear hb2);(try clear hk);(try clear hi)))
          go_roundg k3
          case measure=>have:=HJ1.out;have:=HK2.out;have:=HK3.out;omega
          case rel=>exact ⟨(wrap64 (qe + 1)),(by first|rfl|(simp;done)|(simp [*];done)),H',⟨by have:=HJ1.out;have:=HK2.out;have:=HK3.out;omega⟩,⟨by (with_reducible repeat (first|refine blk_drewN ?_ _|refine blk_drew ?_|refine blk_alloc ?_ _));exact qa.out⟩,⟨by repeat (first|(with_reducible first|exact HB.out|apply below_alloc|apply pw_below_drewN|apply below_drew1|refine below_set ?_ vm.out|refine below_set ?_ js.out)|exact HB.out)⟩⟩
         ·rw [if_neg c52] at H
          have qsl : decide (qe < (qc.length : Int)) = false:=decide_eq_false c52
          clear c52
          have H':=Aside0.mk H
          clear H
          have qev : wr.cell? ⟨qb,0,none⟩ = some (.int .i64 qp):=(blk_cell qa.out 0).trans rfl
          have qeu : wr.cell? ⟨qb,1,none⟩ = some (.int .i64 ql):=(blk_cell qa.out 1).trans rfl
          have qet : wr.cell? ⟨qb,2,none⟩ = some (.slice wd qf.length qv):=(blk_cell qa.out 2).trans rfl
          have qes : wr.cell? ⟨qb,3,none⟩ = some (.slice wg qc.length qu):=(blk_cell qa.out 3).trans rfl
          have qer : wr.cell? ⟨qb,4,none⟩ = some (.slice qx qg.length qt):=(blk_cell qa.out 4).trans rfl
          have qeq : wr.cell? ⟨qb,5,none⟩ = some (.slice qz qh.length qr):=(blk_cell qa.out 5).trans rfl
          have qcv:=blk_frozen qa.out 0
          have qcu:=blk_frozen qa.out 1
          have qct:=blk_frozen qa.out 2
          have qcs:=blk_frozen qa.out 3
          have qcr:=blk_frozen qa.out 4
          have qcq:=blk_frozen qa.out 5
          go_wp2
          go_loopg [7] k3 (fun kq v7 w' => ∃ (qk : Int),v7 = .int .i64 qk ∧ Aside0 (spec_ClientOk.l2 kq qk qp ql qf qc qg qh = some r) ∧ Aside0 (kq ≤ k3) ∧ Aside0 (w'.heap[qb]? = some (.cells #[.int .i64 qp,.int .i64 ql,(.slice wd qf.length qv),(.slice wg qc.length qu),(.slice qx qg.length qt),(.slice qz qh.length qr)] 28 (0,0))) ∧ Aside0 (Below w.heap.size w w'))
          case atStart=>exact ⟨(0),(by first|rfl|(simp;done)|(simp [*];done)),H',⟨Nat.le_refl _⟩,⟨by (with_reducible repeat (first|refine blk_drewN ?_ _|refine blk_drew ?_|refine blk_alloc ?_ _));exact qa.out⟩,⟨by repeat (first|(with_reducible first|exact HB.out|apply below_alloc|apply pw_below_drewN|apply below_drew1|refine below_set ?_ vm.out)|exact HB.out)⟩⟩
          case round =>
           clear H'
           try clear c1
           try clear p1
           try clear q1
           try clear hx1
           try clear p2
           try clear c4
           try clear c5
           try clear c6
           try clear p6
           try clear c7
           try clear c8
           try clear c9
           try clear c10
           try clear qfq
           try clear c11
           try clear c13
           try clear p13
           try clear q13
           try clear qya
           try clear c15
           try clear c41
           try clear c47
           try clear c52
           try clear qsl
           try clear c53
           try clear qvt
           try clear c55
           try clear c57
           try clear qsk
           try clear qsj
           try clear c59
           try clear c61
           try clear c63
           try clear p64
           try clear c66
           try clear c74
           try clear c82
           try clear c89
           try clear c96
           try clear c98
           try clear waj
           try clear qfl
           try clear qfk
           try clear qfj
           try clear qfi
           try clear qfh
           try clear qfg
           try clear qff
           try clear qfe
           try clear qfd
           try clear qfc
           try clear qfb
           try clear qfa
           try clear qez
           try clear qey
           try clear qex
           try clear qew
           try clear qev
           try clear qeu
           try clear qet
           try clear qes
           try clear qer
           try clear qeq
           try clear qaz
           try clear qay
           try clear qax
           try clear qaw
           try clear qav
           try clear qau
           try clear qat
           try clear qas
           try clear qar
           try clear qaq
           try clear qap
           try clear qao
           try clear qan
           try clear qam
           try clear qal
           try clear qak
           try clear qaj
           try clear qai
           try clear qah
           try clear qag
           try clear qaf
           try clear qae
           try clear qrt
           try clear qrs
           try clear qrr
           try clear qrq
           try clear qrp
           try clear qro
           try clear qrn
           try clear qrm
           try clear qrl
           try clear qrk
           try clear qrj
           try clear qri
           try clear qrh
           try clear qrg
           try clear qrf
           try clear qre
           try clear qrd
           try clear qrc
           try clear qrb
           try clear qra
           try clear qqz
           try clear qqy
           try clear qqx
           try clear qqw
           try clear qqv
           try clear qqu
           try clear qqt
           try clear qqs
           try clear qqr
           try clear qqq
           try clear qqp
           try clear qqo
           try clear qqn
           try clear qqm
           try clear qql
           try clear qqk
           try clear qqj
           try clear qqi
           try clear qqh
           try clear qqg
           try clear qqf
           try clear qqe
           try clear qqd
           try clear qqc
           try clear qqb
           try clear qqa
           try clear qpz
           try clear qpy
           try clear qpx
           try clear qpw
           try clear qpv
           try clear qpu
           try clear qpt
           try clear qps
           try clear qpr
           try clear qpq
           try clear qpp
           try clear qpo
           try clear qpn
           try clear qpm
           try clear qpl
           try clear qpk
           try clear qpj
           try clear qpi
           try clear qph
           try clear qpg
           try clear qpf
           try clear qpe
           try clear qpd
           try clear qpc
           try clear qpb
           try clear qpa
           try clear qoz
           try clear qoy
           try clear qox
           try clear qow
           try clear qov
           try clear qou
           try clear qot
           try clear qos
           try clear qor
           try clear qoq
           try clear qop
           try clear qoo
           try clear qon
           try clear qom
           try clear qol
           try clear qok
           try clear qoj
           try clear qoi
           try clear qoh
           try clear qog
           try clear qof
           try clear qoe
           try clear qod
           try clear qoc
           try clear qob
           try clear qoa
           try clear qnz
           try clear qny
           try clear qnx
           try clear qnw
           try clear qnv
           try clear qnu
           try clear qnt
           try clear qns
           try clear qnr
           try clear qnq
           try clear qnp
           try clear qno
           try clear qnn
           try clear qnm
           try clear qnl
           try clear qnk
           try clear qnj
           try clear qni
           try clear qnh
           try clear qng
           try clear qnf
           try clear qne
           try clear qnd
           try clear qnc
           try clear qnb
           try clear qna
           try clear qmz
           try clear qmy
           try clear qmx
           try clear qmw
           try clear qmv
           try clear qmu
           try clear qmt
           try clear qms
           try clear qmr
           try clear qmq
           try clear qmp
           try clear qmo
           try clear qmn
           try clear qmm
           try clear qml
           try clear qmk
           try clear qmj
           try clear qmi
           try clear qmh
           try clear qmg
           try clear qmf
           try clear qme
           try clear qmd
           try clear qmc
           try clear qmb
           try clear qma
           try clear qdl
           try clear qdk
           try clear qdj
           try clear qdi
           try clear qdh
           try clear qdg
           try clear qdf
           try clear qde
           try clear qdd
           try clear qdc
           try clear qdb
           try clear qda
           try clear qcz
           try clear qcy
           try clear qcx
           try clear qcw
           try clear qcv
           try clear qcu
           try clear qct
           try clear qcs
           try clear qcr
           try clear qcq
           try clear qad
           try clear qac
           try clear qab
           try clear qaa
           try clear pz
           try clear px
           try clear pw
           try clear pv
           try clear pu
           try clear pt
           try clear pr
           try clear pq
           try clear pp
           try clear po
           try clear pn
           try clear pm
           try clear pl
           try clear pk
           try clear pj
           try clear pi
           try clear ph
           try clear pg
           try clear qlz
           try clear qly
           try clear qlx
           try clear qlw
           try clear qlv
           try clear qlu
           try clear qlt
           try clear qls
           try clear qlr
           try clear qlq
           try clear qlp
           try clear qlo
           try clear qln
           try clear qlm
           try clear qll
           try clear qlk
           try clear qlj
           try clear qli
           try clear qlh
           try clear qlg
           try clear qlf
           try clear qle
           try clear qld
           try clear qlc
           try clear qlb
           try clear qla
           try clear qkz
           try clear qky
           try clear qkx
           try clear qkw
           try clear qkv
           try clear qku
           try clear qkt
           try clear qks
           try clear qkr
           try clear qkq
           try clear qkp
           try clear qko
           try clear qkn
           try clear qkm
           try clear qkl
           try clear qkk
           try clear qkj
           try clear qki
           try clear qkh
           try clear qkg
           try clear qkf
           try clear qke
           try clear qkd
           try clear qkc
           try clear qkb
           try clear qka
           try clear qjz
           try clear qjy
           try clear qjx
           try clear qjw
           try clear qjv
           try clear qju
           try clear qjt
           try clear qjs
           try clear qjr
           try clear qjq
           try clear qjp
           try clear qjo
           try clear qjn
           try clear qjm
           try clear qjl
           try clear qjk
           try clear qjj
           try clear qji
           try clear qjh
           try clear qjg
           try clear qjf
           try clear qje
           try clear qjd
           try clear qjc
           try clear qjb
           try clear qja
           try clear qiz
           try clear qiy
           try clear qix
           try clear qiw
           try clear qiv
           try clear qiu
           try clear qit
           try clear qis
           try clear qir
           try clear qiq
           try clear qip
           try clear qio
           try clear qin
           try clear qim
           try clear qil
           try clear qik
           try clear qij
           try clear qii
           try clear qih
           try clear qig
           try clear qif
           try clear qie
           try clear qid
           try clear qic
           try clear qib
           try clear qia
           try clear qhz
           try clear qhy
           try clear qhx
           try clear qhw
           try clear qhv
           try clear qhu
           try clear qht
           try clear qhs
           try clear qhr
           try clear qhq
           try clear qhp
           try clear qho
           try clear qhn
           try clear qhm
           try clear qhl
           try clear qhk
           try clear qhj
           try clear qhi
           try clear qhh
           try clear qhg
           try clear qhf
           try clear qhe
           try clear qhd
           try clear qhc
           try clear qhb
           try clear qha
           try clear qgz
           try clear qgy
           try clear qgx
           try clear qgw
           try clear qgv
           try clear qgu
           try clear qgt
           try clear qgs
           try clear qgr
           try clear qgq
           try clear qgp
           try clear qgo
           try clear qgn
           try clear qgm
           try clear qgl
           try clear qgk
           try clear qgj
           try clear qgi
           try clear qgh
           try clear qgg
           try clear vl
           try clear vk
           try clear wx
           try clear ww
           try clear wv
           try clear wu
           try clear wt
           try clear ws
           try clear wq
           try clear wo
           try clear wn
           try clear wm
           try clear p1
           try clear p13
           try clear jp
           try clear je
           try clear p2
           try clear p6
           try clear q1
           try clear q13
           try clear jo
           try clear jb
           obtain ⟨qk,rfl,HA,HK4,qa,HB⟩:=hrel
           cases gk with
           | zero=>exact absurd HA.out (by simp [spec_ClientOk.l2])
           | succ k4 =>
            have H:=HA.out
            clear HA
            simp only [spec_ClientOk.l2] at H
            by_cases pe : qk < (qg.length : Int)
            rotate_left
            ·rw [if_neg pe] at H
             have qfu : decide (qk < (qg.length : Int)) = false:=decide_eq_false pe
             clear pe
             have H':=Aside0.mk H
             clear H
             have qed : wr.cell? ⟨qb,0,none⟩ = some (.int .i64 qp):=(blk_cell qa.out 0).trans rfl
             have qec : wr.cell? ⟨qb,1,none⟩ = some (.int .i64 ql):=(blk_cell qa.out 1).trans rfl
             have qeb : wr.cell? ⟨qb,2,none⟩ = some (.slice wd qf.length qv):=(blk_cell qa.out 2).trans rfl
             have qea : wr.cell? ⟨qb,3,none⟩ = some (.slice wg qc.length qu):=(blk_cell qa.out 3).trans rfl
             have qdz : wr.cell? ⟨qb,4,none⟩ = some (.slice qx qg.length qt):=(blk_cell qa.out 4).trans rfl
             have qdy : wr.cell? ⟨qb,5,none⟩ = some (.slice qz qh.length qr):=(blk_cell qa.out 5).trans rfl
             have qcd:=blk_frozen qa.out 0
             have qcc:=blk_frozen qa.out 1
             have qcb:=blk_frozen qa.out 2
             have qca:=blk_frozen qa.out 3
             have qbz:=blk_frozen qa.out 4
             have qby:=blk_frozen qa.out 5
             go_wp2
             go_loopg [8] k4 (fun kq v8 w' => ∃ (qj : Int),v8 = .int .i64 qj ∧ Aside0 (spec_ClientOk.l3 kq qj qp ql qf qc qg qh = some r) ∧ Aside0 (kq ≤ k4) ∧ Aside0 (w'.heap[qb]? = some (.cells #[.int .i64 qp,.int .i64 ql,(.slice wd qf.length qv),(.slice wg qc.length qu),(.slice qx qg.length qt),(.slice qz qh.length qr)] 28 (0,0))) ∧ Aside0 (Below w.heap.size w w'))
             case atStart=>exact ⟨(0),(by first|rfl|(simp;done)|(simp [*];done)),H',⟨Nat.le_refl _⟩,⟨by (with_reducible repeat (first|refine blk_drewN ?_ _|refine blk_drew ?_|refine blk_alloc ?_ _));exact qa.out⟩,⟨by repeat (first|(with_reducible first|exact HB.out|apply below_alloc|apply pw_below_drewN|apply below_drew1|refine below_set ?_ vm.out)|exact HB.out)⟩⟩
             case round =>
              clear H'
              try clear c1
              try clear p1
              try clear q1
              try clear hx1
              try clear p2
              try clear p6
              try clear c10
              try clear c11
              try clear p14
              try clear q14
              try clear waf
              try clear p64
              try clear pe
              try clear qfu
              try clear qft
              try clear qfs
              try clear pd
              try clear qfr
              try clear qfp
              try clear qfo
              try clear wai
              try clear qep
              try clear qeo
              try clear qen
              try clear qem
              try clear qel
              try clear qek
              try clear qej
              try clear qei
              try clear qeh
              try clear qeg
              try clear qef
              try clear qee
              try clear qed
              try clear qec
              try clear qeb
              try clear qea
              try clear qdz
              try clear qdy
              try clear qcp
              try clear qco
              try clear qcn
              try clear qcm
              try clear qcl
              try clear qck
              try clear qcj
              try clear qci
              try clear qch
              try clear qcg
              try clear qcf
              try clear qce
              try clear qcd
              try clear qcc
              try clear qcb
              try clear qca
              try clear qbz
              try clear qby
              try clear wl
              try clear wk
              try clear wj
              try clear wi
              try clear jv
              try clear ju
              obtain ⟨qj,rfl,HA,HK5,qa,HB⟩:=hrel
              cases gk with
              | zero=>exact absurd HA.out (by simp [spec_ClientOk.l3])
              | succ k5 =>
               have H:=HA.out
               clear HA
               simp only [spec_ClientOk.l3] at H
               by_cases qbe : qj < (qh.length : Int)
               rotate_left
               ·rw [if_neg qbe] at H
                have qsw : decide (qj < (qh.length : Int)) = false:=decide_eq_false qbe
                clear qbe
                obtain rfl:=Option.some.inj H
                have quo : wr.cell? ⟨qb,0,none⟩ = some (.int .i64 qp):=(blk_cell qa.out 0).trans rfl
                have qun : wr.cell? ⟨qb,1,none⟩ = some (.int .i64 ql):=(blk_cell qa.out 1).trans rfl
                have qum : wr.cell? ⟨qb,2,none⟩ = some (.slice wd qf.length qv):=(blk_cell qa.out 2).trans rfl
                have qul : wr.cell? ⟨qb,3,none⟩ = some (.slice wg qc.length qu):=(blk_cell qa.out 3).trans rfl
                have quk : wr.cell? ⟨qb,4,none⟩ = some (.slice qx qg.length qt):=(blk_cell qa.out 4).trans rfl
                have quj : wr.cell? ⟨qb,5,none⟩ = some (.slice qz qh.length qr):=(blk_cell qa.out 5).trans rfl
                have qte:=blk_frozen qa.out 0
                have qtd:=blk_frozen qa.out 1
                have qtc:=blk_frozen qa.out 2
                have qtb:=blk_frozen qa.out 3
                have qta:=blk_frozen qa.out 4
                have qsz:=blk_frozen qa.out 5
                go_wp2
                go_ret
                exact ⟨by first|rfl|(simp [errW_none,errW_some] <;> rfl)|(simp [*,errW_none,errW_some] <;> rfl),by repeat (first|(with_reducible first|exact HB.out|apply below_alloc|apply pw_below_drewN|apply below_drew1|refine below_set ?_ vm.out)|exact HB.out)⟩
               rw [if_pos qbe] at H
               have qsw : decide (qj < (qh.length : Int)) = true:=decide_eq_true qbe
               clear qbe
               by_cases qry : 0 ≤ qj
               rotate_left
               ·rw [if_neg qry] at H
                exact absurd H (by simp)
               rw [if_pos qry] at H
               have qyg : decide (0 ≤ qj) = true:=decide_eq_true qry
               clear qry
               replace H:=Option.bind_eq_some_iff.mp H
               obtain ⟨qgc,qsn,H⟩:=H
               replace H : (if qgc = true then (if qj ≤ (qh.length : Int) then ((spec_l12Called.f k5 (qh.take (qj : Int).toNat) ((rd_T113 qh qj).f0) ((rd_T113 qh qj).f1) ((rd_T113 qh qj).f2) ((rd_T113 qh qj).f3)).bind fun gn=>(if gn = true then (some false) else (spec_ClientOk.l3 k5 (wrap64 (qj + 1)) qp ql qf qc qg qh))) else (none)) else (some false)) = some r:=H
               have qsy:=Aside0.mk qsn
               clear qsn
               by_cases qrx : qgc = true
               rotate_left
               ·replace qrx:=Bool.eq_false_iff.mpr qrx
                subst qrx
                rw [if_neg (show ¬ (false = true) by decide)] at H
                obtain rfl:=Option.some.inj H
                have quu : wr.cell? ⟨qb,0,none⟩ = some (.int .i64 qp):=(blk_cell qa.out 0).trans rfl
                have qut : wr.cell? ⟨qb,1,none⟩ = some (.int .i64 ql):=(blk_cell qa.out 1).trans rfl
                have qus : wr.cell? ⟨qb,2,none⟩ = some (.slice wd qf.length qv):=(blk_cell qa.out 2).trans rfl
                have qur : wr.cell? ⟨qb,3,none⟩ = some (.slice wg qc.length qu):=(blk_cell qa.out 3).trans rfl
                have quq : wr.cell? ⟨qb,4,none⟩ = some (.slice qx qg.length qt):=(blk_cell qa.out 4).trans rfl
                have qup : wr.cell? ⟨qb,5,none⟩ = some (.slice qz qh.length qr):=(blk_cell qa.out 5).trans rfl
                have qtk:=blk_frozen qa.out 0
                have qtj:=blk_frozen qa.out 1
                have qti:=blk_frozen qa.out 2
                have qth:=blk_frozen qa.out 3
                have qtg:=blk_frozen qa.out 4
                have qtf:=blk_frozen qa.out 5
                try go_wp2
                have n0_:=Aside0.mk (blk_drew qa.out)
                have n1_:=Aside0.mk (below_drew1 HB.out)
                clear qa
                clear HB
                have qa:=n0_
                have HB:=n1_
                clear n0_ n1_
                have ga : 0 ≤ (qj : Int):=of_decide_eq_true (by first|(with_reducible assumption)|assumption)
                have jz : qj < (qh.length : Int):=of_decide_eq_true (by first|(with_reducible assumption)|assumption)
                obtain ⟨qw,qfm,ua,vz,vy,vx⟩:=at_T113 jq.out qj ga jz
                have vr:=vx
                have vt:=vy
                have vu:=vz
                have vv:=ua
                cases qfm
                replace ua:=(HB.out.cell (World.block_lt_of_cell? w _ ua)).trans ua
                replace vz:=(HB.out.cell (World.block_lt_of_cell? w _ vz)).trans vz
                replace vy:=(HB.out.cell (World.block_lt_of_cell? w _ vy)).trans vy
                replace vx:=(HB.out.cell (World.block_lt_of_cell? w _ vx)).trans vx
                replace ga:=eq_true ga
                replace jz:=eq_true jz
                refine start_ (n:=21) (S:=fun w' => w'.cell? ⟨qb,0,none⟩ = some (.int .i64 qp) ∧ w'.cell? ⟨qb,1,none⟩ = some (.int .i64 ql) ∧ w'.cell? ⟨qb,2,none⟩ = some (.slice wd qf.length qv) ∧ w'.cell? ⟨qb,3,none⟩ = some (.slice wg qc.length qu) ∧ w'.cell? ⟨qb,4,none⟩ = some (.slice qx qg.length qt) ∧ w'.cell? ⟨qb,5,none⟩ = some (.slice (some qw) qh.length qr) ∧ w'.cell? (qw.add ((qj).toNat * 4)) = some (.int .i64 ((rd_T113 qh qj).f0)) ∧ w'.cell? ⟨(qw.add ((qj).toNat * 4)).block,(qw.add ((qj).toNat * 4)).off + 1,none⟩ = some (.int .i64 ((rd_T113 qh qj).f1)) ∧ w'.cell? ⟨(qw.add ((qj).toNat * 4)).block,(qw.add ((qj).toNat * 4)).off + 2,none⟩ = some (.int .i64 ((rd_T113 qh qj).f2)) ∧ w'.cell? ⟨(qw.add ((qj).toNat * 4)).block,(qw.add ((qj).toNat * 4)).off + 3,none⟩ = some (.int .i64 ((rd_T113 qh qj).f3))) (ds:=[]) b36q (by kernel_rfl) rfl rfl ⟨(blk_cell qa.out 0).trans rfl,(blk_cell qa.out 1).trans rfl,(blk_cell qa.out 2).trans rfl,(blk_cell qa.out 3).trans rfl,(blk_cell qa.out 4).trans rfl,(blk_cell qa.out 5).trans rfl,((HB.out.cell (World.block_lt_of_cell? w _ vv)).trans vv),((HB.out.cell (World.block_lt_of_cell? w _ vu)).trans vu),((HB.out.cell (World.block_lt_of_cell? w _ vt)).trans vt),((HB.out.cell (World.block_lt_of_cell? w _ vr)).trans vr)⟩ (fun hHeld=>?_);refine with_tabW spec_ClientOk.tab23 spec_ClientOk.bits23 (fun HT_ HW_=>?_)
                generalize wr.drew = qzq at qa HB ua vz vy vx hHeld ⊢
                refine pure_ (i:=0) (N:=some 144) (v:=?_) (a':=?_) b37q rfl rfl (any_of HT_.out (by kernel_rfl)) (fun _ _ _ h=>h) (Or.inl ⟨by rfl,?_⟩) ?_ ?_;rotate_left;(intro w';go_simp;with_reducible rfl);rotate_left;(exact z13a)
                refine pure_ (i:=2) (N:=some 146) (v:=?_) (a':=?_) b38q rfl rfl (any_of HT_.out (by kernel_rfl)) (fun _ _ _ h=>h) (Or.inl ⟨by rfl,?_⟩) ?_ ?_;rotate_left;(intro w';go_simp;with_reducible rfl);rotate_left;(exact z13a)
                refine pure_ (i:=4) (N:=some 148) (v:=?_) (a':=?_) b39q rfl rfl (any_of HT_.out (by kernel_rfl)) (fun _ _ _ h=>h) (Or.inl ⟨by rfl,?_⟩) ?_ ?_;rotate_left;(intro w';go_simp;with_reducible rfl);rotate_left;(exact z13a)
                refine take_ (i:=1) (N:=some 145) (v:=?_) (a':=?_) b40q rfl rfl (take_ofW HT_.out HW_.out (by kernel_rfl)) (fun _ _ _ h=>h) (Or.inl ⟨by rfl,?_⟩) hHeld ?_ ?_;rotate_left;(rintro w' ⟨s0,s1,s2,s3,s4,s5,s6,s7,s8,s9⟩;go_simp;with_reducible rfl);rotate_left;(exact z13a)
                refine take_ (i:=3) (N:=some 147) (v:=?_) (a':=?_) b41q rfl rfl (take_ofW HT_.out HW_.out (by kernel_rfl)) (fun _ _ _ h=>h) (Or.inl ⟨by rfl,?_⟩) hHeld ?_ ?_;rotate_left;(rintro w' ⟨s0,s1,s2,s3,s4,s5,s6,s7,s8,s9⟩;go_simp;with_reducible rfl);rotate_left;(exact z13a)
                refine pure_ (i:=5) (N:=some 149) (v:=?_) (a':=?_) b42q rfl rfl (any_of HT_.out (by kernel_rfl)) (fun _ _ _ h=>h) (Or.inl ⟨by rfl,?_⟩) ?_ ?_;rotate_left;(intro w';go_simp;with_reducible rfl);rotate_left;(exact z13a)
                refine take_ (i:=6) (N:=some 150) (v:=?_) (a':=?_) b43q rfl rfl (take_ofW HT_.out HW_.out (by kernel_rfl)) (fun _ _ _ h=>h) (Or.inl ⟨by rfl,?_⟩) hHeld ?_ ?_;rotate_left;(rintro w' ⟨s0,s1,s2,s3,s4,s5,s6,s7,s8,s9⟩;go_simp;with_reducible rfl);rotate_left;(exact z13a)
                refine one_ (i:=7) (N:=some 151) b44q rfl rfl (one_of HT_.out (by kernel_rfl)) (by decide) (fun K hK=>?_)
                refine goes_ Try.func117 (by kernel_rfl) rfl #[.slice qx qg.length qt,.agg #[.int .i64 ((rd_T113 qh qj).f0),.int .i64 ((rd_T113 qh qj).f1),.int .i64 ((rd_T113 qh qj).f2),.int .i64 ((rd_T113 qh qj).f3)]] (by rfl) rfl rfl z13x9 ?_
                with_reducible refine (spec_l12Called.calls k5 _ _ qg ((rd_T113 qh qj).f0) ((rd_T113 qh qj).f1) ((rd_T113 qh qj).f2) ((rd_T113 qh qj).f3) false _ ?side1 ?side2 qsy.out).mono ?_
                (case side1=>repeat (first|exact (Kd.C_below jd.out HB.out)|(with_reducible refine Kd.C_alloc ?_ _)|(with_reducible refine Kd.C_drewN ?_ _)|(with_reducible refine Kd.C_drew ?_)))
                (case side2=>exact jx.out)
                rintro e qzp ⟨rfl,hb⟩
                refine ⟨_,rfl,?_⟩
                have n0_:=Aside0.mk (blk_below (g:=qb) (o:=.cells #[.int .i64 qp,.int .i64 ql,.slice wd qf.length qv,.slice wg qc.length qu,.slice qx qg.length qt,.slice (some qw) qh.length qr] 28 (0,0)) z13x11 hb)
                have n1_:=Aside0.mk (below_step z13x8 hb)
                clear qa
                clear HB
                have qa:=n0_
                have HB:=n1_
                clear n0_ n1_
                (try clear hb)
                (try clear hb2)
                (try clear hk)
                (try clear hi)
                refine hK.out _ _ ⟨(blk_cell qa.out 0).trans rfl,(blk_cell qa.out 1).trans rfl,(blk_cell qa.out 2).trans rfl,(blk_cell qa.out 3).trans rfl,(blk_cell qa.out 4).trans rfl,(blk_cell qa.out 5).trans rfl,((HB.out.cell (World.block_lt_of_cell? w _ vv)).trans vv),((HB.out.cell (World.block_lt_of_cell? w _ vu)).trans vu),((HB.out.cell (World.block_lt_of_cell? w _ vt)).trans vt),((HB.out.cell (World.block_lt_of_cell? w _ vr)).trans vr)⟩ (fun hHeld=>?_)
                clear hK K
                refine norm_ (a':=?_) ?_ ?_
                rotate_left
                ·show Act.put _ (some 151) _ = _
                 simp only [Act.put,List.setIfInBounds_toArray,List.set_cons_zero,List.set_cons_succ,i64_w,i32_w]
                 rfl
                refine pure_ (i:=8) (N:=some 152) (v:=?_) (a':=?_) b45q rfl rfl (any_of HT_.out (by kernel_rfl)) (fun _ _ _ h=>h) (Or.inl ⟨by rfl,?_⟩) ?_ ?_;rotate_left;(intro w';go_simp;with_reducible rfl);rotate_left;(exact z13a)
                refine pure_ (i:=9) (N:=some 153) (v:=?_) (a':=?_) b46q rfl rfl (any_of HT_.out (by kernel_rfl)) (fun _ _ _ h=>h) (Or.inl ⟨by rfl,?_⟩) ?_ ?_;rotate_left;(intro w';go_simp;with_reducible rfl);rotate_left;(exact z13a)
                refine pure_ (i:=10) (N:=some 154) (v:=undef) (a':=?_) b47q rfl rfl (any_of HT_.out (by kernel_rfl)) (fun _ _ _ h=>h) (Or.inr ⟨by rfl,rfl⟩) ?_ ?_
                rotate_left
                ·exact z13a
                refine pure_ (i:=11) (N:=some 155) (v:=undef) (a':=?_) b48q rfl rfl (any_of HT_.out (by kernel_rfl)) (fun _ _ _ h=>h) (Or.inr ⟨by rfl,rfl⟩) ?_ ?_
                rotate_left
                ·exact z13a
                refine pure_ (i:=12) (N:=some 156) (v:=undef) (a':=?_) b49q rfl rfl (any_of HT_.out (by kernel_rfl)) (fun _ _ _ h=>h) (Or.inr ⟨by rfl,rfl⟩) ?_ ?_
                rotate_left
                ·exact z13a
                refine pure_ (i:=13) (N:=some 157) (v:=undef) (a':=?_) b50q rfl rfl (any_of HT_.out (by kernel_rfl)) (fun _ _ _ h=>h) (Or.inr ⟨by rfl,rfl⟩) ?_ ?_
                rotate_left
                ·exact z13a
                refine pure_ (i:=14) (N:=some 158) (v:=undef) (a':=?_) b51q rfl rfl (any_of HT_.out (by kernel_rfl)) (fun _ _ _ h=>h) (Or.inr ⟨by rfl,rfl⟩) ?_ ?_
                rotate_left
                ·exact z13a
                refine pure_ (i:=15) (N:=some 159) (v:=undef) (a':=?_) b52q rfl rfl (any_of HT_.out (by kernel_rfl)) (fun _ _ _ h=>h) (Or.inr ⟨by rfl,rfl⟩) ?_ ?_
                rotate_left
                ·exact z13a
                refine pure_ (i:=16) (N:=some 160) (v:=undef) (a':=?_) b53q rfl rfl (any_of HT_.out (by kernel_rfl)) (fun _ _ _ h=>h) (Or.inr ⟨by rfl,rfl⟩) ?_ ?_
                rotate_left
                ·exact z13a
                refine pure_ (i:=17) (N:=some 161) (v:=undef) (a':=?_) b54q rfl rfl (any_of HT_.out (by kernel_rfl)) (fun _ _ _ h=>h) (Or.inr ⟨by rfl,rfl⟩) ?_ ?_
                rotate_left
                ·exact z13a
                refine pure_ (i:=18) (N:=some 162) (v:=undef) (a':=?_) b55q rfl rfl (any_of HT_.out (by kernel_rfl)) (fun _ _ _ h=>h) (Or.inr ⟨by rfl,rfl⟩) ?_ ?_
                rotate_left
                ·exact z13a
                refine pure_ (i:=19) (N:=some 163) (v:=undef) (a':=?_) b56q rfl rfl (any_of HT_.out (by kernel_rfl)) (fun _ _ _ h=>h) (Or.inr ⟨by rfl,rfl⟩) ?_ ?_
                rotate_left
                ·exact z13a
                refine pure_ (i:=20) (N:=some 164) (v:=?_) (a':=?_) b57q rfl rfl (any_of HT_.out (by kernel_rfl)) (fun _ _ _ h=>h) (Or.inl ⟨by rfl,?_⟩) ?_ ?_;rotate_left;(intro w';go_simp;with_reducible rfl);rotate_left;(exact z13a)
                refine done_ (done_of HT_.out (by kernel_rfl)) ?_
                try go_wp2
                go_ret
                exact ⟨by first|rfl|(simp [errW_none,errW_some] <;> rfl)|(simp [*,errW_none,errW_some] <;> rfl),by repeat (first|(with_reducible first|exact HB.out|apply below_alloc|apply pw_below_drewN|apply below_drew1|refine below_set ?_ vm.out)|exact HB.out)⟩
               subst qrx
               rw [if_pos rfl] at H
               have qyf:=eq_true (of_decide_eq_true (by first|(with_reducible assumption)|assumption) : 0 ≤ qj)
               by_cases qfn : qj ≤ (qh.length : Int)
               rotate_left
               ·rw [if_neg qfn] at H
                exact absurd H (by simp)
               rw [if_pos qfn] at H
               have qye:=eq_true qfn
               have qyd : decide (qj ≤ (qh.length : Int)) = true:=decide_eq_true qfn
               clear qfn
               obtain ⟨gj,gq⟩ : ∃ y_ : List (S113),y_ = (qh.take (qj : Int).toNat):=⟨_,rfl⟩
               replace H : ((spec_l12Called.f k5 gj ((rd_T113 qh qj).f0) ((rd_T113 qh qj).f1) ((rd_T113 qh qj).f2) ((rd_T113 qh qj).f3)).bind fun gn=>(if gn = true then (some false) else (spec_ClientOk.l3 k5 (wrap64 (qj + 1)) qp ql qf qc qg qh))) = some r:=by first|(rw [gq];with_reducible exact H)|(have H2_:=(Option.bind_some _ _).symm.trans H;rw [gq];with_reducible exact H2_)|(have H2_:=(Option.bind_some _ _).symm.trans H;with_reducible exact H2_)|with_reducible exact H|(rw [gq];exact H)|exact H
               have qba:=Aside0.mk gq
               clear gq
               replace H:=Option.bind_eq_some_iff.mp H
               obtain ⟨gn,qsm,H⟩:=H
               replace H : (if gn = true then (some false) else (spec_ClientOk.l3 k5 (wrap64 (qj + 1)) qp ql qf qc qg qh)) = some r:=H
               have qwc:=Aside0.mk qsm
               clear qsm
               by_cases qrw : gn = true
               ·subst qrw
                rw [if_pos rfl] at H
                obtain rfl:=Option.some.inj H
                have qvg : wr.cell? ⟨qb,0,none⟩ = some (.int .i64 qp):=(blk_cell qa.out 0).trans rfl
                have qvf : wr.cell? ⟨qb,1,none⟩ = some (.int .i64 ql):=(blk_cell qa.out 1).trans rfl
                have qve : wr.cell? ⟨qb,2,none⟩ = some (.slice wd qf.length qv):=(blk_cell qa.out 2).trans rfl
                have qvd : wr.cell? ⟨qb,3,none⟩ = some (.slice wg qc.length qu):=(blk_cell qa.out 3).trans rfl
                have qvc : wr.cell? ⟨qb,4,none⟩ = some (.slice qx qg.length qt):=(blk_cell qa.out 4).trans rfl
                have qvb : wr.cell? ⟨qb,5,none⟩ = some (.slice qz qh.length qr):=(blk_cell qa.out 5).trans rfl
                have qtw:=blk_frozen qa.out 0
                have qtv:=blk_frozen qa.out 1
                have qtu:=blk_frozen qa.out 2
                have qtt:=blk_frozen qa.out 3
                have qts:=blk_frozen qa.out 4
                have qtr:=blk_frozen qa.out 5
                try go_wp2
                have n0_:=Aside0.mk (blk_drew qa.out)
                have n1_:=Aside0.mk (below_drew1 HB.out)
                clear qa
                clear HB
                have qa:=n0_
                have HB:=n1_
                clear n0_ n1_
                have ga : 0 ≤ (qj : Int):=of_decide_eq_true (by first|(with_reducible assumption)|assumption)
                have jz : qj < (qh.length : Int):=of_decide_eq_true (by first|(with_reducible assumption)|assumption)
                obtain ⟨qw,qfm,ua,vz,vy,vx⟩:=at_T113 jq.out qj ga jz
                have vr:=vx
                have vt:=vy
                have vu:=vz
                have vv:=ua
                cases qfm
                replace ua:=(HB.out.cell (World.block_lt_of_cell? w _ ua)).trans ua
                replace vz:=(HB.out.cell (World.block_lt_of_cell? w _ vz)).trans vz
                replace vy:=(HB.out.cell (World.block_lt_of_cell? w _ vy)).trans vy
                replace vx:=(HB.out.cell (World.block_lt_of_cell? w _ vx)).trans vx
                replace ga:=eq_true ga
                replace jz:=eq_true jz
                have gy : 0 ≤ (qj : Int):=of_decide_eq_true (by first|(with_reducible assumption)|assumption)
                have gu : qj < (qh.length : Int):=of_decide_eq_true (by first|(with_reducible assumption)|assumption)
                obtain ⟨qfv,qss,uq,uo,un,um⟩:=at_T113 jq.out qj gy gu
                have uf:=um
                have ug:=un
                have uh:=uo
                have ui:=uq
                obtain rfl : qw = qfv:=(by injection qss)
                replace uq:=(HB.out.cell (World.block_lt_of_cell? w _ uq)).trans uq
                replace uo:=(HB.out.cell (World.block_lt_of_cell? w _ uo)).trans uo
                replace un:=(HB.out.cell (World.block_lt_of_cell? w _ un)).trans un
                replace um:=(HB.out.cell (World.block_lt_of_cell? w _ um)).trans um
                replace gy:=eq_true gy
                replace gu:=eq_true gu
                refine start_ (n:=21) (S:=fun w' => w'.cell? ⟨qb,0,none⟩ = some (.int .i64 qp) ∧ w'.cell? ⟨qb,1,none⟩ = some (.int .i64 ql) ∧ w'.cell? ⟨qb,2,none⟩ = some (.slice wd qf.length qv) ∧ w'.cell? ⟨qb,3,none⟩ = some (.slice wg qc.length qu) ∧ w'.cell? ⟨qb,4,none⟩ = some (.slice qx qg.length qt) ∧ w'.cell? ⟨qb,5,none⟩ = some (.slice (some qw) qh.length qr) ∧ w'.cell? (qw.add ((qj).toNat * 4)) = some (.int .i64 ((rd_T113 qh qj).f0)) ∧ w'.cell? ⟨(qw.add ((qj).toNat * 4)).block,(qw.add ((qj).toNat * 4)).off + 1,none⟩ = some (.int .i64 ((rd_T113 qh qj).f1)) ∧ w'.cell? ⟨(qw.add ((qj).toNat * 4)).block,(qw.add ((qj).toNat * 4)).off + 2,none⟩ = some (.int .i64 ((rd_T113 qh qj).f2)) ∧ w'.cell? ⟨(qw.add ((qj).toNat * 4)).block,(qw.add ((qj).toNat * 4)).off + 3,none⟩ = some (.int .i64 ((rd_T113 qh qj).f3)) ∧ w'.cell? (qw.add ((qj).toNat * 4)) = some (.int .i64 ((rd_T113 qh qj).f0)) ∧ w'.cell? ⟨(qw.add ((qj).toNat * 4)).block,(qw.add ((qj).toNat * 4)).off + 1,none⟩ = some (.int .i64 ((rd_T113 qh qj).f1)) ∧ w'.cell? ⟨(qw.add ((qj).toNat * 4)).block,(qw.add ((qj).toNat * 4)).off + 2,none⟩ = some (.int .i64 ((rd_T113 qh qj).f2)) ∧ w'.cell? ⟨(qw.add ((qj).toNat * 4)).block,(qw.add ((qj).toNat * 4)).off + 3,none⟩ = some (.int .i64 ((rd_T113 qh qj).f3))) (ds:=[]) b36q (by kernel_rfl) rfl rfl ⟨(blk_cell qa.out 0).trans rfl,(blk_cell qa.out 1).trans rfl,(blk_cell qa.out 2).trans rfl,(blk_cell qa.out 3).trans rfl,(blk_cell qa.out 4).trans rfl,(blk_cell qa.out 5).trans rfl,((HB.out.cell (World.block_lt_of_cell? w _ vv)).trans vv),((HB.out.cell (World.block_lt_of_cell? w _ vu)).trans vu),((HB.out.cell (World.block_lt_of_cell? w _ vt)).trans vt),((HB.out.cell (World.block_lt_of_cell? w _ vr)).trans vr),((HB.out.cell (World.block_lt_of_cell? w _ ui)).trans ui),((HB.out.cell (World.block_lt_of_cell? w _ uh)).trans uh),((HB.out.cell (World.block_lt_of_cell? w _ ug)).trans ug),((HB.out.cell (World.block_lt_of_cell? w _ uf)).trans uf)⟩ (fun hHeld=>?_);refine with_tabW spec_ClientOk.tab23 spec_ClientOk.bits23 (fun HT_ HW_=>?_)
                generalize wr.drew = qzw at qa HB ua vz vy vx uq uo un um hHeld ⊢
                refine pure_ (i:=0) (N:=some 144) (v:=?_) (a':=?_) b37q rfl rfl (any_of HT_.out (by kernel_rfl)) (fun _ _ _ h=>h) (Or.inl ⟨by rfl,?_⟩) ?_ ?_;rotate_left;(intro w';go_simp;with_reducible rfl);rotate_left;(exact z13a)
                refine pure_ (i:=2) (N:=some 146) (v:=?_) (a':=?_) b38q rfl rfl (any_of HT_.out (by kernel_rfl)) (fun _ _ _ h=>h) (Or.inl ⟨by rfl,?_⟩) ?_ ?_;rotate_left;(intro w';go_simp;with_reducible rfl);rotate_left;(exact z13a)
                refine pure_ (i:=4) (N:=some 148) (v:=?_) (a':=?_) b39q rfl rfl (any_of HT_.out (by kernel_rfl)) (fun _ _ _ h=>h) (Or.inl ⟨by rfl,?_⟩) ?_ ?_;rotate_left;(intro w';go_simp;with_reducible rfl);rotate_left;(exact z13a)
                refine take_ (i:=1) (N:=some 145) (v:=?_) (a':=?_) b40q rfl rfl (take_ofW HT_.out HW_.out (by kernel_rfl)) (fun _ _ _ h=>h) (Or.inl ⟨by rfl,?_⟩) hHeld ?_ ?_;rotate_left;(rintro w' ⟨s0,s1,s2,s3,s4,s5,s6,s7,s8,s9,s10,s11,s12,s13⟩;go_simp;with_reducible rfl);rotate_left;(exact z13a)
                refine take_ (i:=3) (N:=some 147) (v:=?_) (a':=?_) b41q rfl rfl (take_ofW HT_.out HW_.out (by kernel_rfl)) (fun _ _ _ h=>h) (Or.inl ⟨by rfl,?_⟩) hHeld ?_ ?_;rotate_left;(rintro w' ⟨s0,s1,s2,s3,s4,s5,s6,s7,s8,s9,s10,s11,s12,s13⟩;go_simp;with_reducible rfl);rotate_left;(exact z13a)
                refine pure_ (i:=5) (N:=some 149) (v:=?_) (a':=?_) b42q rfl rfl (any_of HT_.out (by kernel_rfl)) (fun _ _ _ h=>h) (Or.inl ⟨by rfl,?_⟩) ?_ ?_;rotate_left;(intro w';go_simp;with_reducible rfl);rotate_left;(exact z13a)
                refine take_ (i:=6) (N:=some 150) (v:=?_) (a':=?_) b43q rfl rfl (take_ofW HT_.out HW_.out (by kernel_rfl)) (fun _ _ _ h=>h) (Or.inl ⟨by rfl,?_⟩) hHeld ?_ ?_;rotate_left;(rintro w' ⟨s0,s1,s2,s3,s4,s5,s6,s7,s8,s9,s10,s11,s12,s13⟩;go_simp;with_reducible rfl);rotate_left;(exact z13a)
                refine one_ (i:=7) (N:=some 151) b44q rfl rfl (one_of HT_.out (by kernel_rfl)) (by decide) (fun K hK=>?_)
                refine goes_ Try.func117 (by kernel_rfl) rfl #[.slice qx qg.length qt,.agg #[.int .i64 ((rd_T113 qh qj).f0),.int .i64 ((rd_T113 qh qj).f1),.int .i64 ((rd_T113 qh qj).f2),.int .i64 ((rd_T113 qh qj).f3)]] (by rfl) rfl rfl z13x9 ?_
                with_reducible refine (spec_l12Called.calls k5 _ _ qg ((rd_T113 qh qj).f0) ((rd_T113 qh qj).f1) ((rd_T113 qh qj).f2) ((rd_T113 qh qj).f3) true _ ?side1 ?side2 qsy.out).mono ?_
                (case side1=>repeat (first|exact (Kd.C_below jd.out HB.out)|(with_reducible refine Kd.C_alloc ?_ _)|(with_reducible refine Kd.C_drewN ?_ _)|(with_reducible refine Kd.C_drew ?_)))
                (case side2=>exact jx.out)
                rintro e qzv ⟨rfl,hb⟩
                refine ⟨_,rfl,?_⟩
                have n0_:=Aside0.mk (blk_below (g:=qb) (o:=.cells #[.int .i64 qp,.int .i64 ql,.slice wd qf.length qv,.slice wg qc.length qu,.slice qx qg.length qt,.slice (some qw) qh.length qr] 28 (0,0)) z13x11 hb)
                have n1_:=Aside0.mk (below_step z13x8 hb)
                clear qa
                clear HB
                have qa:=n0_
                have HB:=n1_
                clear n0_ n1_
                (try clear hb)
                (try clear hb2)
                (try clear hk)
                (try clear hi)
                have jb : (qj : Int) ≤ ((qh.length : Int) : Int):=of_decide_eq_true (by first|(with_reducible assumption)|assumption)
                obtain ⟨qyl,qbl,_,qsr,_⟩:=info_parts info113
                have hroom138 : qh.length ≤ qr:=gf.out
                have qsi : Kd.C k113 _ (some qw) qh.length qh:=jq.out
                have qrv:=cut_to (P:=Try.prog) 26 113 .i64 Try.underlying26 qbl (some qw) qh.length qr qj (of_decide_eq_true (by first|(with_reducible assumption)|assumption)) jb hroom138
                have qbj:=Kd.C_take (m:=(qj : Int).toNat) qsi (by omega)
                have qbh : gj.length = (qj : Int).toNat:=(by rw [qba.out,List.length_take];omega)
                rw [← qba.out] at qbj
                rw [← qbh] at qrv
                have qfz:=Aside0.mk qbj
                have qga:=Aside0.mk (show gj.length ≤ qr from by omega)
                clear qbj qsi hroom138 qbl qsr
                have qzn:=Aside0.mk qbh
                clear qbh
                replace jb:=eq_true jb
                refine hK.out _ _ ⟨(blk_cell qa.out 0).trans rfl,(blk_cell qa.out 1).trans rfl,(blk_cell qa.out 2).trans rfl,(blk_cell qa.out 3).trans rfl,(blk_cell qa.out 4).trans rfl,(blk_cell qa.out 5).trans rfl,((HB.out.cell (World.block_lt_of_cell? w _ vv)).trans vv),((HB.out.cell (World.block_lt_of_cell? w _ vu)).trans vu),((HB.out.cell (World.block_lt_of_cell? w _ vt)).trans vt),((HB.out.cell (World.block_lt_of_cell? w _ vr)).trans vr),((HB.out.cell (World.block_lt_of_cell? w _ ui)).trans ui),((HB.out.cell (World.block_lt_of_cell? w _ uh)).trans uh),((HB.out.cell (World.block_lt_of_cell? w _ ug)).trans ug),((HB.out.cell (World.block_lt_of_cell? w _ uf)).trans uf)⟩ (fun hHeld=>?_)
                clear hK K
                refine norm_ (a':=?_) ?_ ?_
                rotate_left
                ·show Act.put _ (some 151) _ = _
                 simp only [Act.put,List.setIfInBounds_toArray,List.set_cons_zero,List.set_cons_succ,i64_w,i32_w]
                 rfl
                refine pure_ (i:=8) (N:=some 152) (v:=?_) (a':=?_) b45q rfl rfl (any_of HT_.out (by kernel_rfl)) (fun _ _ _ h=>h) (Or.inl ⟨by rfl,?_⟩) ?_ ?_;rotate_left;(intro w';go_simp;with_reducible rfl);rotate_left;(exact z13a)
                refine pure_ (i:=9) (N:=some 153) (v:=?_) (a':=?_) b46q rfl rfl (any_of HT_.out (by kernel_rfl)) (fun _ _ _ h=>h) (Or.inl ⟨by rfl,?_⟩) ?_ ?_;rotate_left;(intro w';go_simp;with_reducible rfl);rotate_left;(exact z13a)
                refine pure_ (i:=10) (N:=some 154) (v:=?_) (a':=?_) b47q rfl rfl (any_of HT_.out (by kernel_rfl)) (fun _ _ _ h=>h) (Or.inl ⟨by rfl,?_⟩) ?_ ?_;rotate_left;(intro w';go_simp;with_reducible rfl);rotate_left;(exact z13a)
                refine pure_ (i:=12) (N:=some 156) (v:=?_) (a':=?_) b58q rfl rfl (any_of HT_.out (by kernel_rfl)) (fun _ _ _ h=>h) (Or.inl ⟨by rfl,?_⟩) ?_ ?_;rotate_left;(intro w';go_simp;with_reducible rfl);rotate_left;(exact z13a)
                refine pure_ (i:=14) (N:=some 158) (v:=?_) (a':=?_) b59q rfl rfl (any_of HT_.out (by kernel_rfl)) (fun _ _ _ h=>h) (Or.inl ⟨by rfl,?_⟩) ?_ ?_;rotate_left;(intro w';go_simp;with_reducible rfl);rotate_left;(exact z13a)
                refine pure_ (i:=16) (N:=some 160) (v:=?_) (a':=?_) b60q rfl rfl (any_of HT_.out (by kernel_rfl)) (fun _ _ _ h=>h) (Or.inl ⟨by rfl,?_⟩) ?_ ?_;rotate_left;(intro w';go_simp;with_reducible rfl);rotate_left;(exact z13a)
                refine take_ (i:=11) (N:=some 155) (v:=?_) (a':=?_) b61q rfl rfl (take_ofW HT_.out HW_.out (by kernel_rfl)) (fun _ _ _ h=>h) (Or.inl ⟨by rfl,?_⟩) hHeld ?_ ?_;rotate_left;(rintro w' ⟨s0,s1,s2,s3,s4,s5,s6,s7,s8,s9,s10,s11,s12,s13⟩;go_simp;with_reducible rfl);rotate_left;(exact z13a)
                refine pure_ (i:=13) (N:=some 157) (v:=?_) (a':=?_) b62q rfl rfl (any_of HT_.out (by kernel_rfl)) (fun _ _ _ h=>h) (Or.inl ⟨by rfl,?_⟩) ?_ ?_;rotate_left;(intro w';go_simp;with_reducible rfl);rotate_left;(exact z13a)
                refine take_ (i:=15) (N:=some 159) (v:=?_) (a':=?_) b53q rfl rfl (take_ofW HT_.out HW_.out (by kernel_rfl)) (fun _ _ _ h=>h) (Or.inl ⟨by rfl,?_⟩) hHeld ?_ ?_;rotate_left;(rintro w' ⟨s0,s1,s2,s3,s4,s5,s6,s7,s8,s9,s10,s11,s12,s13⟩;go_simp;with_reducible rfl);rotate_left;(exact z13a)
                refine pure_ (i:=17) (N:=some 161) (v:=?_) (a':=?_) b54q rfl rfl (any_of HT_.out (by kernel_rfl)) (fun _ _ _ h=>h) (Or.inl ⟨by rfl,?_⟩) ?_ ?_;rotate_left;(intro w';go_simp;with_reducible rfl);rotate_left;(exact z13a)
                refine take_ (i:=18) (N:=some 162) (v:=?_) (a':=?_) b55q rfl rfl (take_ofW HT_.out HW_.out (by kernel_rfl)) (fun _ _ _ h=>h) (Or.inl ⟨by rfl,?_⟩) hHeld ?_ ?_;rotate_left;(rintro w' ⟨s0,s1,s2,s3,s4,s5,s6,s7,s8,s9,s10,s11,s12,s13⟩;go_simp;with_reducible rfl);rotate_left;(exact z13a)
                refine one_ (i:=19) (N:=some 163) b56q rfl rfl (one_of HT_.out (by kernel_rfl)) (by decide) (fun K hK=>?_)
                refine goes_ Try.func117 (by kernel_rfl) rfl #[.slice (some qw) gj.length qr,.agg #[.int .i64 ((rd_T113 qh qj).f0),.int .i64 ((rd_T113 qh qj).f1),.int .i64 ((rd_T113 qh qj).f2),.int .i64 ((rd_T113 qh qj).f3)]] (by rfl) rfl rfl z13x9 ?_
                with_reducible refine (spec_l12Called.calls k5 _ _ gj ((rd_T113 qh qj).f0) ((rd_T113 qh qj).f1) ((rd_T113 qh qj).f2) ((rd_T113 qh qj).f3) true _ ?side1 ?side2 qwc.out).mono ?_
                (case side1=>repeat (first|exact (Kd.C_below qfz.out HB.out)|(with_reducible refine Kd.C_alloc ?_ _)|(with_reducible refine Kd.C_drewN ?_ _)|(with_reducible refine Kd.C_drew ?_)))
                (case side2=>exact qga.out)
                rintro e qzu ⟨rfl,hb⟩
                refine ⟨_,rfl,?_⟩
                have n0_:=Aside0.mk (blk_below (g:=qb) (o:=.cells #[.int .i64 qp,.int .i64 ql,.slice wd qf.length qv,.slice wg qc.length qu,.slice qx qg.length qt,.slice (some qw) qh.length qr] 28 (0,0)) z13x11 hb)
                have n1_:=Aside0.mk (below_step z13x8 hb)
                clear qa
                clear HB
                have qa:=n0_
                have HB:=n1_
                clear n0_ n1_
                (try clear hb)
                (try clear hb2)
                (try clear hk)
                (try clear hi)
                refine hK.out _ _ ⟨(blk_cell qa.out 0).trans rfl,(blk_cell qa.out 1).trans rfl,(blk_cell qa.out 2).trans rfl,(blk_cell qa.out 3).trans rfl,(blk_cell qa.out 4).trans rfl,(blk_cell qa.out 5).trans rfl,((HB.out.cell (World.block_lt_of_cell? w _ vv)).trans vv),((HB.out.cell (World.block_lt_of_cell? w _ vu)).trans vu),((HB.out.cell (World.block_lt_of_cell? w _ vt)).trans vt),((HB.out.cell (World.block_lt_of_cell? w _ vr)).trans vr),((HB.out.cell (World.block_lt_of_cell? w _ ui)).trans ui),((HB.out.cell (World.block_lt_of_cell? w _ uh)).trans uh),((HB.out.cell (World.block_lt_of_cell? w _ ug)).trans ug),((HB.out.cell (World.block_lt_of_cell? w _ uf)).trans uf)⟩ (fun hHeld=>?_)
                clear hK K
                refine norm_ (a':=?_) ?_ ?_
                rotate_left
                ·show Act.put _ (some 163) _ = _
                 simp only [Act.put,List.setIfInBounds_toArray,List.set_cons_zero,List.set_cons_succ,i64_w,i32_w]
                 rfl
                refine pure_ (i:=20) (N:=some 164) (v:=?_) (a':=?_) b57q rfl rfl (any_of HT_.out (by kernel_rfl)) (fun _ _ _ h=>h) (Or.inl ⟨by rfl,?_⟩) ?_ ?_;rotate_left;(intro w';go_simp;with_reducible rfl);rotate_left;(exact z13a)
                refine done_ (done_of HT_.out (by kernel_rfl)) ?_
                try go_wp2
                go_ret
                exact ⟨by first|rfl|(simp [errW_none,errW_some] <;> rfl)|(simp [*,errW_none,errW_some] <;> rfl),by repeat (first|(with_reducible first|exact HB.out|apply below_alloc|apply pw_below_drewN|apply below_drew1|refine below_set ?_ vm.out)|exact HB.out)⟩
               ·replace qrw:=Bool.eq_false_iff.mpr qrw
                subst qrw
                rw [if_neg (show ¬ (false = true) by decide)] at H
                have H':=Aside0.mk H
                clear H
                have qva : wr.cell? ⟨qb,0,none⟩ = some (.int .i64 qp):=(blk_cell qa.out 0).trans rfl
                have quz : wr.cell? ⟨qb,1,none⟩ = some (.int .i64 ql):=(blk_cell qa.out 1).trans rfl
                have quy : wr.cell? ⟨qb,2,none⟩ = some (.slice wd qf.length qv):=(blk_cell qa.out 2).trans rfl
                have qux : wr.cell? ⟨qb,3,none⟩ = some (.slice wg qc.length qu):=(blk_cell qa.out 3).trans rfl
                have quw : wr.cell? ⟨qb,4,none⟩ = some (.slice qx qg.length qt):=(blk_cell qa.out 4).trans rfl
                have quv : wr.cell? ⟨qb,5,none⟩ = some (.slice qz qh.length qr):=(blk_cell qa.out 5).trans rfl
                have qtq:=blk_frozen qa.out 0
                have qtp:=blk_frozen qa.out 1
                have qto:=blk_frozen qa.out 2
                have qtn:=blk_frozen qa.out 3
                have qtm:=blk_frozen qa.out 4
                have qtl:=blk_frozen qa.out 5
                try go_wp2
                have n0_:=Aside0.mk (blk_drew qa.out)
                have n1_:=Aside0.mk (below_drew1 HB.out)
                clear qa
                clear HB
                have qa:=n0_
                have HB:=n1_
                clear n0_ n1_
                have ga : 0 ≤ (qj : Int):=of_decide_eq_true (by first|(with_reducible assumption)|assumption)
                have jz : qj < (qh.length : Int):=of_decide_eq_true (by first|(with_reducible assumption)|assumption)
                obtain ⟨qw,qfm,ua,vz,vy,vx⟩:=at_T113 jq.out qj ga jz
                have vr:=vx
                have vt:=vy
                have vu:=vz
                have vv:=ua
                cases qfm
                replace ua:=(HB.out.cell (World.block_lt_of_cell? w _ ua)).trans ua
                replace vz:=(HB.out.cell (World.block_lt_of_cell? w _ vz)).trans vz
                replace vy:=(HB.out.cell (World.block_lt_of_cell? w _ vy)).trans vy
                replace vx:=(HB.out.cell (World.block_lt_of_cell? w _ vx)).trans vx
                replace ga:=eq_true ga
                replace jz:=eq_true jz
                have gy : 0 ≤ (qj : Int):=of_decide_eq_true (by first|(with_reducible assumption)|assumption)
                have gu : qj < (qh.length : Int):=of_decide_eq_true (by first|(with_reducible assumption)|assumption)
                obtain ⟨qfv,qss,uq,uo,un,um⟩:=at_T113 jq.out qj gy gu
                have uf:=um
                have ug:=un
                have uh:=uo
                have ui:=uq
                obtain rfl : qw = qfv:=(by injection qss)
                replace uq:=(HB.out.cell (World.block_lt_of_cell? w _ uq)).trans uq
                replace uo:=(HB.out.cell (World.block_lt_of_cell? w _ uo)).trans uo
                replace un:=(HB.out.cell (World.block_lt_of_cell? w _ un)).trans un
                replace um:=(HB.out.cell (World.block_lt_of_cell? w _ um)).trans um
                replace gy:=eq_true gy
                replace gu:=eq_true gu
                refine start_ (n:=21) (S:=fun w' => w'.cell? ⟨qb,0,none⟩ = some (.int .i64 qp) ∧ w'.cell? ⟨qb,1,none⟩ = some (.int .i64 ql) ∧ w'.cell? ⟨qb,2,none⟩ = some (.slice wd qf.length qv) ∧ w'.cell? ⟨qb,3,none⟩ = some (.slice wg qc.length qu) ∧ w'.cell? ⟨qb,4,none⟩ = some (.slice qx qg.length qt) ∧ w'.cell? ⟨qb,5,none⟩ = some (.slice (some qw) qh.length qr) ∧ w'.cell? (qw.add ((qj).toNat * 4)) = some (.int .i64 ((rd_T113 qh qj).f0)) ∧ w'.cell? ⟨(qw.add ((qj).toNat * 4)).block,(qw.add ((qj).toNat * 4)).off + 1,none⟩ = some (.int .i64 ((rd_T113 qh qj).f1)) ∧ w'.cell? ⟨(qw.add ((qj).toNat * 4)).block,(qw.add ((qj).toNat * 4)).off + 2,none⟩ = some (.int .i64 ((rd_T113 qh qj).f2)) ∧ w'.cell? ⟨(qw.add ((qj).toNat * 4)).block,(qw.add ((qj).toNat * 4)).off + 3,none⟩ = some (.int .i64 ((rd_T113 qh qj).f3)) ∧ w'.cell? (qw.add ((qj).toNat * 4)) = some (.int .i64 ((rd_T113 qh qj).f0)) ∧ w'.cell? ⟨(qw.add ((qj).toNat * 4)).block,(qw.add ((qj).toNat * 4)).off + 1,none⟩ = some (.int .i64 ((rd_T113 qh qj).f1)) ∧ w'.cell? ⟨(qw.add ((qj).toNat * 4)).block,(qw.add ((qj).toNat * 4)).off + 2,none⟩ = some (.int .i64 ((rd_T113 qh qj).f2)) ∧ w'.cell? ⟨(qw.add ((qj).toNat * 4)).block,(qw.add ((qj).toNat * 4)).off + 3,none⟩ = some (.int .i64 ((rd_T113 qh qj).f3))) (ds:=[]) b36q (by kernel_rfl) rfl rfl ⟨(blk_cell qa.out 0).trans rfl,(blk_cell qa.out 1).trans rfl,(blk_cell qa.out 2).trans rfl,(blk_cell qa.out 3).trans rfl,(blk_cell qa.out 4).trans rfl,(blk_cell qa.out 5).trans rfl,((HB.out.cell (World.block_lt_of_cell? w _ vv)).trans vv),((HB.out.cell (World.block_lt_of_cell? w _ vu)).trans vu),((HB.out.cell (World.block_lt_of_cell? w _ vt)).trans vt),((HB.out.cell (World.block_lt_of_cell? w _ vr)).trans vr),((HB.out.cell (World.block_lt_of_cell? w _ ui)).trans ui),((HB.out.cell (World.block_lt_of_cell? w _ uh)).trans uh),((HB.out.cell (World.block_lt_of_cell? w _ ug)).trans ug),((HB.out.cell (World.block_lt_of_cell? w _ uf)).trans uf)⟩ (fun hHeld=>?_);refine with_tabW spec_ClientOk.tab23 spec_ClientOk.bits23 (fun HT_ HW_=>?_)
                generalize wr.drew = qzt at qa HB ua vz vy vx uq uo un um hHeld ⊢
                refine pure_ (i:=0) (N:=some 144) (v:=?_) (a':=?_) b37q rfl rfl (any_of HT_.out (by kernel_rfl)) (fun _ _ _ h=>h) (Or.inl ⟨by rfl,?_⟩) ?_ ?_;rotate_left;(intro w';go_simp;with_reducible rfl);rotate_left;(exact z13a)
                refine pure_ (i:=2) (N:=some 146) (v:=?_) (a':=?_) b38q rfl rfl (any_of HT_.out (by kernel_rfl)) (fun _ _ _ h=>h) (Or.inl ⟨by rfl,?_⟩) ?_ ?_;rotate_left;(intro w';go_simp;with_reducible rfl);rotate_left;(exact z13a)
                refine pure_ (i:=4) (N:=some 148) (v:=?_) (a':=?_) b39q rfl rfl (any_of HT_.out (by kernel_rfl)) (fun _ _ _ h=>h) (Or.inl ⟨by rfl,?_⟩) ?_ ?_;rotate_left;(intro w';go_simp;with_reducible rfl);rotate_left;(exact z13a)
                refine take_ (i:=1) (N:=some 145) (v:=?_) (a':=?_) b40q rfl rfl (take_ofW HT_.out HW_.out (by kernel_rfl)) (fun _ _ _ h=>h) (Or.inl ⟨by rfl,?_⟩) hHeld ?_ ?_;rotate_left;(rintro w' ⟨s0,s1,s2,s3,s4,s5,s6,s7,s8,s9,s10,s11,s12,s13⟩;go_simp;with_reducible rfl);rotate_left;(exact z13a)
                refine take_ (i:=3) (N:=some 147) (v:=?_) (a':=?_) b41q rfl rfl (take_ofW HT_.out HW_.out (by kernel_rfl)) (fun _ _ _ h=>h) (Or.inl ⟨by rfl,?_⟩) hHeld ?_ ?_;rotate_left;(rintro w' ⟨s0,s1,s2,s3,s4,s5,s6,s7,s8,s9,s10,s11,s12,s13⟩;go_simp;with_reducible rfl);rotate_left;(exact z13a)
                refine pure_ (i:=5) (N:=some 149) (v:=?_) (a':=?_) b42q rfl rfl (any_of HT_.out (by kernel_rfl)) (fun _ _ _ h=>h) (Or.inl ⟨by rfl,?_⟩) ?_ ?_;rotate_left;(intro w';go_simp;with_reducible rfl);rotate_left;(exact z13a)
                refine take_ (i:=6) (N:=some 150) (v:=?_) (a':=?_) b43q rfl rfl (take_ofW HT_.out HW_.out (by kernel_rfl)) (fun _ _ _ h=>h) (Or.inl ⟨by rfl,?_⟩) hHeld ?_ ?_;rotate_left;(rintro w' ⟨s0,s1,s2,s3,s4,s5,s6,s7,s8,s9,s10,s11,s12,s13⟩;go_simp;with_reducible rfl);rotate_left;(exact z13a)
                refine one_ (i:=7) (N:=some 151) b44q rfl rfl (one_of HT_.out (by kernel_rfl)) (by decide) (fun K hK=>?_)
                refine goes_ Try.func117 (by kernel_rfl) rfl #[.slice qx qg.length qt,.agg #[.int .i64 ((rd_T113 qh qj).f0),.int .i64 ((rd_T113 qh qj).f1),.int .i64 ((rd_T113 qh qj).f2),.int .i64 ((rd_T113 qh qj).f3)]] (by rfl) rfl rfl z13x9 ?_
                with_reducible refine (spec_l12Called.calls k5 _ _ qg ((rd_T113 qh qj).f0) ((rd_T113 qh qj).f1) ((rd_T113 qh qj).f2) ((rd_T113 qh qj).f3) true _ ?side1 ?side2 qsy.out).mono ?_
                (case side1=>repeat (first|exact (Kd.C_below jd.out HB.out)|(with_reducible refine Kd.C_alloc ?_ _)|(with_reducible refine Kd.C_drewN ?_ _)|(with_reducible refine Kd.C_drew ?_)))
                (case side2=>exact jx.out)
                rintro e qzs ⟨rfl,hb⟩
                refine ⟨_,rfl,?_⟩
                have n0_:=Aside0.mk (blk_below (g:=qb) (o:=.cells #[.int .i64 qp,.int .i64 ql,.slice wd qf.length qv,.slice wg qc.length qu,.slice qx qg.length qt,.slice (some qw) qh.length qr] 28 (0,0)) z13x11 hb)
                have n1_:=Aside0.mk (below_step z13x8 hb)
                clear qa
                clear HB
                have qa:=n0_
                have HB:=n1_
                clear n0_ n1_
                (try clear hb)
                (try clear hb2)
                (try clear hk)
                (try clear hi)
                have qsp : (qj : Int) ≤ ((qh.length : Int) : Int):=of_decide_eq_true (by first|(with_reducible assumption)|assumption)
                obtain ⟨qyk,qbk,_,qsq,_⟩:=info_parts info113
                have hroom143 : qh.length ≤ qr:=gf.out
                have qsh : Kd.C k113 _ (some qw) qh.length qh:=jq.out
                have qru:=cut_to (P:=Try.prog) 26 113 .i64 Try.underlying26 qbk (some qw) qh.length qr qj (of_decide_eq_true (by first|(with_reducible assumption)|assumption)) qsp hroom143
                have qbi:=Kd.C_take (m:=(qj : Int).toNat) qsh (by omega)
                have qbg : gj.length = (qj : Int).toNat:=(by rw [qba.out,List.length_take];omega)
                rw [← qba.out] at qbi
                rw [← qbg] at qru
                have qfz:=Aside0.mk qbi
                have qga:=Aside0.mk (show gj.length ≤ qr from by omega)
                clear qbi qsh hroom143 qbk qsq
                have qzm:=Aside0.mk qbg
                clear qbg
                replace qsp:=eq_true qsp
                refine hK.out _ _ ⟨(blk_cell qa.out 0).trans rfl,(blk_cell qa.out 1).trans rfl,(blk_cell qa.out 2).trans rfl,(blk_cell qa.out 3).trans rfl,(blk_cell qa.out 4).trans rfl,(blk_cell qa.out 5).trans rfl,((HB.out.cell (World.block_lt_of_cell? w _ vv)).trans vv),((HB.out.cell (World.block_lt_of_cell? w _ vu)).trans vu),((HB.out.cell (World.block_lt_of_cell? w _ vt)).trans vt),((HB.out.cell (World.block_lt_of_cell? w _ vr)).trans vr),((HB.out.cell (World.block_lt_of_cell? w _ ui)).trans ui),((HB.out.cell (World.block_lt_of_cell? w _ uh)).trans uh),((HB.out.cell (World.block_lt_of_cell? w _ ug)).trans ug),((HB.out.cell (World.block_lt_of_cell? w _ uf)).trans uf)⟩ (fun hHeld=>?_)
                clear hK K
                refine norm_ (a':=?_) ?_ ?_
                rotate_left
                ·show Act.put _ (some 151) _ = _
                 simp only [Act.put,List.setIfInBounds_toArray,List.set_cons_zero,List.set_cons_succ,i64_w,i32_w]
                 rfl
                refine pure_ (i:=8) (N:=some 152) (v:=?_) (a':=?_) b45q rfl rfl (any_of HT_.out (by kernel_rfl)) (fun _ _ _ h=>h) (Or.inl ⟨by rfl,?_⟩) ?_ ?_;rotate_left;(intro w';go_simp;with_reducible rfl);rotate_left;(exact z13a)
                refine pure_ (i:=9) (N:=some 153) (v:=?_) (a':=?_) b46q rfl rfl (any_of HT_.out (by kernel_rfl)) (fun _ _ _ h=>h) (Or.inl ⟨by rfl,?_⟩) ?_ ?_;rotate_left;(intro w';go_simp;with_reducible rfl);rotate_left;(exact z13a)
                refine pure_ (i:=10) (N:=some 154) (v:=?_) (a':=?_) b47q rfl rfl (any_of HT_.out (by kernel_rfl)) (fun _ _ _ h=>h) (Or.inl ⟨by rfl,?_⟩) ?_ ?_;rotate_left;(intro w';go_simp;with_reducible rfl);rotate_left;(exact z13a)
                refine pure_ (i:=12) (N:=some 156) (v:=?_) (a':=?_) b58q rfl rfl (any_of HT_.out (by kernel_rfl)) (fun _ _ _ h=>h) (Or.inl ⟨by rfl,?_⟩) ?_ ?_;rotate_left;(intro w';go_simp;with_reducible rfl);rotate_left;(exact z13a)
                refine pure_ (i:=14) (N:=some 158) (v:=?_) (a':=?_) b59q rfl rfl (any_of HT_.out (by kernel_rfl)) (fun _ _ _ h=>h) (Or.inl ⟨by rfl,?_⟩) ?_ ?_;rotate_left;(intro w';go_simp;with_reducible rfl);rotate_left;(exact z13a)
                refine pure_ (i:=16) (N:=some 160) (v:=?_) (a':=?_) b60q rfl rfl (any_of HT_.out (by kernel_rfl)) (fun _ _ _ h=>h) (Or.inl ⟨by rfl,?_⟩) ?_ ?_;rotate_left;(intro w';go_simp;with_reducible rfl);rotate_left;(exact z13a)
                refine take_ (i:=11) (N:=some 155) (v:=?_) (a':=?_) b61q rfl rfl (take_ofW HT_.out HW_.out (by kernel_rfl)) (fun _ _ _ h=>h) (Or.inl ⟨by rfl,?_⟩) hHeld ?_ ?_;rotate_left;(rintro w' ⟨s0,s1,s2,s3,s4,s5,s6,s7,s8,s9,s10,s11,s12,s13⟩;go_simp;with_reducible rfl);rotate_left;(exact z13a)
                refine pure_ (i:=13) (N:=some 157) (v:=?_) (a':=?_) b62q rfl rfl (any_of HT_.out (by kernel_rfl)) (fun _ _ _ h=>h) (Or.inl ⟨by rfl,?_⟩) ?_ ?_;rotate_left;(intro w';go_simp;with_reducible rfl);rotate_left;(exact z13a)
                refine take_ (i:=15) (N:=some 159) (v:=?_) (a':=?_) b53q rfl rfl (take_ofW HT_.out HW_.out (by kernel_rfl)) (fun _ _ _ h=>h) (Or.inl ⟨by rfl,?_⟩) hHeld ?_ ?_;rotate_left;(rintro w' ⟨s0,s1,s2,s3,s4,s5,s6,s7,s8,s9,s10,s11,s12,s13⟩;go_simp;with_reducible rfl);rotate_left;(exact z13a)
                refine pure_ (i:=17) (N:=some 161) (v:=?_) (a':=?_) b54q rfl rfl (any_of HT_.out (by kernel_rfl)) (fun _ _ _ h=>h) (Or.inl ⟨by rfl,?_⟩) ?_ ?_;rotate_left;(intro w';go_simp;with_reducible rfl);rotate_left;(exact z13a)
                refine take_ (i:=18) (N:=some 162) (v:=?_) (a':=?_) b55q rfl rfl (take_ofW HT_.out HW_.out (by kernel_rfl)) (fun _ _ _ h=>h) (Or.inl ⟨by rfl,?_⟩) hHeld ?_ ?_;rotate_left;(rintro w' ⟨s0,s1,s2,s3,s4,s5,s6,s7,s8,s9,s10,s11,s12,s13⟩;go_simp;with_reducible rfl);rotate_left;(exact z13a)
                refine one_ (i:=19) (N:=some 163) b56q rfl rfl (one_of HT_.out (by kernel_rfl)) (by decide) (fun K hK=>?_)
                refine goes_ Try.func117 (by kernel_rfl) rfl #[.slice (some qw) gj.length qr,.agg #[.int .i64 ((rd_T113 qh qj).f0),.int .i64 ((rd_T113 qh qj).f1),.int .i64 ((rd_T113 qh qj).f2),.int .i64 ((rd_T113 qh qj).f3)]] (by rfl) rfl rfl z13x9 ?_
                with_reducible refine (spec_l12Called.calls k5 _ _ gj ((rd_T113 qh qj).f0) ((rd_T113 qh qj).f1) ((rd_T113 qh qj).f2) ((rd_T113 qh qj).f3) false _ ?side1 ?side2 qwc.out).mono ?_
                (case side1=>repeat (first|exact (Kd.C_below qfz.out HB.out)|(with_reducible refine Kd.C_alloc ?_ _)|(with_reducible refine Kd.C_drewN ?_ _)|(with_reducible refine Kd.C_drew ?_)))
                (case side2=>exact qga.out)
                rintro e qzr ⟨rfl,hb⟩
                refine ⟨_,rfl,?_⟩
                have n0_:=Aside0.mk (blk_below (g:=qb) (o:=.cells #[.int .i64 qp,.int .i64 ql,.slice wd qf.length qv,.slice wg qc.length qu,.slice qx qg.length qt,.slice (some qw) qh.length qr] 28 (0,0)) z13x11 hb)
                have n1_:=Aside0.mk (below_step z13x8 hb)
                clear qa
                clear HB
                have qa:=n0_
                have HB:=n1_
                clear n0_ n1_
                (try clear hb)
                (try clear hb2)
                (try clear hk)
                (try clear hi)
                refine hK.out _ _ ⟨(blk_cell qa.out 0).trans rfl,(blk_cell qa.out 1).trans rfl,(blk_cell qa.out 2).trans rfl,(blk_cell qa.out 3).trans rfl,(blk_cell qa.out 4).trans rfl,(blk_cell qa.out 5).trans rfl,((HB.out.cell (World.block_lt_of_cell? w _ vv)).trans vv),((HB.out.cell (World.block_lt_of_cell? w _ vu)).trans vu),((HB.out.cell (World.block_lt_of_cell? w _ vt)).trans vt),((HB.out.cell (World.block_lt_of_cell? w _ vr)).trans vr),((HB.out.cell (World.block_lt_of_cell? w _ ui)).trans ui),((HB.out.cell (World.block_lt_of_cell? w _ uh)).trans uh),((HB.out.cell (World.block_lt_of_cell? w _ ug)).trans ug),((HB.out.cell (World.block_lt_of_cell? w _ uf)).trans uf)⟩ (fun hHeld=>?_)
                clear hK K
                refine norm_ (a':=?_) ?_ ?_
                rotate_left
                ·show Act.put _ (some 163) _ = _
                 simp only [Act.put,List.setIfInBounds_toArray,List.set_cons_zero,List.set_cons_succ,i64_w,i32_w]
                 rfl
                refine pure_ (i:=20) (N:=some 164) (v:=?_) (a':=?_) b57q rfl rfl (any_of HT_.out (by kernel_rfl)) (fun _ _ _ h=>h) (Or.inl ⟨by rfl,?_⟩) ?_ ?_;rotate_left;(intro w';go_simp;with_reducible rfl);rotate_left;(exact z13a)
                refine done_ (done_of HT_.out (by kernel_rfl)) ?_
                try go_wp2
                go_roundg k5
                case measure=>have:=HJ1.out;have:=HK2.out;have:=HK3.out;have:=HK4.out;have:=HK5.out;omega
                case rel=>exact ⟨(wrap64 (qj + 1)),(by first|rfl|(simp;done)|(simp [*];done)),H',⟨by have:=HJ1.out;have:=HK2.out;have:=HK3.out;have:=HK4.out;have:=HK5.out;omega⟩,⟨by (with_reducible repeat (first|refine blk_drewN ?_ _|refine blk_drew ?_|refine blk_alloc ?_ _));exact qa.out⟩,⟨by repeat (first|(with_reducible first|exact HB.out|apply below_alloc|apply pw_below_drewN|apply below_drew1|refine below_set ?_ vm.out)|exact HB.out)⟩⟩
            rw [if_pos pe] at H
            have qfu : decide (qk < (qg.length : Int)) = true:=decide_eq_true pe
            clear pe
            by_cases qft : 0 ≤ qk
            rotate_left
            ·rw [if_neg qft] at H
             exact absurd H (by simp)
            rw [if_pos qft] at H
            have qyj : decide (0 ≤ qk) = true:=decide_eq_true qft
            clear qft
            replace H:=Option.bind_eq_some_iff.mp H
            obtain ⟨qgd,qso,H⟩:=H
            replace H : (if qgd = true then (if qk > 0 then (if 0 ≤ (wrap64 (qk - 1)) then (if (wrap64 (qk - 1)) < (qg.length : Int) then (if ((rd_T113 qg (wrap64 (qk - 1))).f3) ≥ ((rd_T113 qg qk).f3) then (some false) else (spec_ClientOk.l2 k4 (wrap64 (qk + 1)) qp ql qf qc qg qh)) else (none)) else (none)) else (spec_ClientOk.l2 k4 (wrap64 (qk + 1)) qp ql qf qc qg qh)) else (some false)) = some r:=H
            have qgb:=Aside0.mk qso
            clear qso
            by_cases qfs : qgd = true
            rotate_left
            ·replace qfs:=Bool.eq_false_iff.mpr qfs
             subst qfs
             rw [if_neg (show ¬ (false = true) by decide)] at H
             obtain rfl:=Option.some.inj H
             have qej : wr.cell? ⟨qb,0,none⟩ = some (.int .i64 qp):=(blk_cell qa.out 0).trans rfl
             have qei : wr.cell? ⟨qb,1,none⟩ = some (.int .i64 ql):=(blk_cell qa.out 1).trans rfl
             have qeh : wr.cell? ⟨qb,2,none⟩ = some (.slice wd qf.length qv):=(blk_cell qa.out 2).trans rfl
             have qeg : wr.cell? ⟨qb,3,none⟩ = some (.slice wg qc.length qu):=(blk_cell qa.out 3).trans rfl
             have qef : wr.cell? ⟨qb,4,none⟩ = some (.slice qx qg.length qt):=(blk_cell qa.out 4).trans rfl
             have qee : wr.cell? ⟨qb,5,none⟩ = some (.slice qz qh.length qr):=(blk_cell qa.out 5).trans rfl
             have qcj:=blk_frozen qa.out 0
             have qci:=blk_frozen qa.out 1
             have qch:=blk_frozen qa.out 2
             have qcg:=blk_frozen qa.out 3
             have qcf:=blk_frozen qa.out 4
             have qce:=blk_frozen qa.out 5
             try go_wp2
             have n0_:=Aside0.mk (blk_drew qa.out)
             have n1_:=Aside0.mk (below_drew1 HB.out)
             clear qa
             clear HB
             have qa:=n0_
             have HB:=n1_
             clear n0_ n1_
             have jv : 0 ≤ (qk : Int):=of_decide_eq_true (by first|(with_reducible assumption)|assumption)
             have ju : qk < (qg.length : Int):=of_decide_eq_true (by first|(with_reducible assumption)|assumption)
             obtain ⟨qq,pc,wl,wk,wj,wi⟩:=at_T113 jd.out qk jv ju
             have vn:=wi
             have vo:=wj
             have vp:=wk
             have vq:=wl
             cases pc
             replace wl:=(HB.out.cell (World.block_lt_of_cell? w _ wl)).trans wl
             replace wk:=(HB.out.cell (World.block_lt_of_cell? w _ wk)).trans wk
             replace wj:=(HB.out.cell (World.block_lt_of_cell? w _ wj)).trans wj
             replace wi:=(HB.out.cell (World.block_lt_of_cell? w _ wi)).trans wi
             replace jv:=eq_true jv
             replace ju:=eq_true ju
             refine start_ (n:=29) (S:=fun w' => w'.cell? ⟨qb,0,none⟩ = some (.int .i64 qp) ∧ w'.cell? ⟨qb,1,none⟩ = some (.int .i64 ql) ∧ w'.cell? ⟨qb,2,none⟩ = some (.slice wd qf.length qv) ∧ w'.cell? ⟨qb,3,none⟩ = some (.slice wg qc.length qu) ∧ w'.cell? ⟨qb,4,none⟩ = some (.slice (some qq) qg.length qt) ∧ w'.cell? ⟨qb,5,none⟩ = some (.slice qz qh.length qr) ∧ w'.cell? (qq.add ((qk).toNat * 4)) = some (.int .i64 ((rd_T113 qg qk).f0)) ∧ w'.cell? ⟨(qq.add ((qk).toNat * 4)).block,(qq.add ((qk).toNat * 4)).off + 1,none⟩ = some (.int .i64 ((rd_T113 qg qk).f1)) ∧ w'.cell? ⟨(qq.add ((qk).toNat * 4)).block,(qq.add ((qk).toNat * 4)).off + 2,none⟩ = some (.int .i64 ((rd_T113 qg qk).f2)) ∧ w'.cell? ⟨(qq.add ((qk).toNat * 4)).block,(qq.add ((qk).toNat * 4)).off + 3,none⟩ = some (.int .i64 ((rd_T113 qg qk).f3))) (ds:=[]) b63q (by kernel_rfl) rfl rfl ⟨(blk_cell qa.out 0).trans rfl,(blk_cell qa.out 1).trans rfl,(blk_cell qa.out 2).trans rfl,(blk_cell qa.out 3).trans rfl,(blk_cell qa.out 4).trans rfl,(blk_cell qa.out 5).trans rfl,((HB.out.cell (World.block_lt_of_cell? w _ vq)).trans vq),((HB.out.cell (World.block_lt_of_cell? w _ vp)).trans vp),((HB.out.cell (World.block_lt_of_cell? w _ vo)).trans vo),((HB.out.cell (World.block_lt_of_cell? w _ vn)).trans vn)⟩ (fun hHeld=>?_);refine with_tabW spec_ClientOk.tab18 spec_ClientOk.bits18 (fun HT_ HW_=>?_)
             generalize wr.drew = qzy at qa HB wl wk wj wi hHeld ⊢
             refine pure_ (i:=0) (N:=some 108) (v:=?_) (a':=?_) b64q rfl rfl (any_of HT_.out (by kernel_rfl)) (fun _ _ _ h=>h) (Or.inl ⟨by rfl,?_⟩) ?_ ?_;rotate_left;(intro w';go_simp;with_reducible rfl);rotate_left;(exact z13a)
             refine pure_ (i:=2) (N:=some 110) (v:=?_) (a':=?_) b65q rfl rfl (any_of HT_.out (by kernel_rfl)) (fun _ _ _ h=>h) (Or.inl ⟨by rfl,?_⟩) ?_ ?_;rotate_left;(intro w';go_simp;with_reducible rfl);rotate_left;(exact z13a)
             refine pure_ (i:=5) (N:=some 113) (v:=?_) (a':=?_) b66q rfl rfl (any_of HT_.out (by kernel_rfl)) (fun _ _ _ h=>h) (Or.inl ⟨by rfl,?_⟩) ?_ ?_;rotate_left;(intro w';go_simp;with_reducible rfl);rotate_left;(exact z13a)
             refine take_ (i:=1) (N:=some 109) (v:=?_) (a':=?_) b67q rfl rfl (take_ofW HT_.out HW_.out (by kernel_rfl)) (fun _ _ _ h=>h) (Or.inl ⟨by rfl,?_⟩) hHeld ?_ ?_;rotate_left;(rintro w' ⟨s0,s1,s2,s3,s4,s5,s6,s7,s8,s9⟩;go_simp;with_reducible rfl);rotate_left;(exact z13a)
             refine pure_ (i:=3) (N:=some 111) (v:=?_) (a':=?_) b68q rfl rfl (any_of HT_.out (by kernel_rfl)) (fun _ _ _ h=>h) (Or.inl ⟨by rfl,?_⟩) ?_ ?_;rotate_left;(intro w';go_simp;with_reducible rfl);rotate_left;(exact z13a)
             refine take_ (i:=4) (N:=some 112) (v:=?_) (a':=?_) b69q rfl rfl (take_ofW HT_.out HW_.out (by kernel_rfl)) (fun _ _ _ h=>h) (Or.inl ⟨by rfl,?_⟩) hHeld ?_ ?_;rotate_left;(rintro w' ⟨s0,s1,s2,s3,s4,s5,s6,s7,s8,s9⟩;go_simp;with_reducible rfl);rotate_left;(exact z13a)
             refine take_ (i:=6) (N:=some 114) (v:=?_) (a':=?_) b70q rfl rfl (take_ofW HT_.out HW_.out (by kernel_rfl)) (fun _ _ _ h=>h) (Or.inl ⟨by rfl,?_⟩) hHeld ?_ ?_;rotate_left;(rintro w' ⟨s0,s1,s2,s3,s4,s5,s6,s7,s8,s9⟩;go_simp;with_reducible rfl);rotate_left;(exact z13a)
             refine one_ (i:=7) (N:=some 115) b71q rfl rfl (one_of HT_.out (by kernel_rfl)) (by decide) (fun K hK=>?_)
             refine goes_ Try.func116 (by kernel_rfl) rfl #[.agg #[.int .i64 ((rd_T113 qg qk).f0),.int .i64 ((rd_T113 qg qk).f1),.int .i64 ((rd_T113 qg qk).f2),.int .i64 ((rd_T113 qg qk).f3)],.int .i64 ql] (by rfl) rfl rfl z13x9 ?_
             with_reducible refine (spec_l12Call.calls ((rd_T113 qg qk).f0) ((rd_T113 qg qk).f1) ((rd_T113 qg qk).f2) ((rd_T113 qg qk).f3) ql false _ qgb.out).mono ?_
             rintro e qzx ⟨rfl,hb⟩
             refine ⟨_,rfl,?_⟩
             have n0_:=Aside0.mk (blk_below (g:=qb) (o:=.cells #[.int .i64 qp,.int .i64 ql,.slice wd qf.length qv,.slice wg qc.length qu,.slice (some qq) qg.length qt,.slice qz qh.length qr] 28 (0,0)) z13x11 hb)
             have n1_:=Aside0.mk (below_step z13x8 hb)
             clear qa
             clear HB
             have qa:=n0_
             have HB:=n1_
             clear n0_ n1_
             (try clear hb)
             (try clear hb2)
             (try clear hk)
             (try clear hi)
             refine hK.out _ _ ⟨(blk_cell qa.out 0).trans rfl,(blk_cell qa.out 1).trans rfl,(blk_cell qa.out 2).trans rfl,(blk_cell qa.out 3).trans rfl,(blk_cell qa.out 4).trans rfl,(blk_cell qa.out 5).trans rfl,((HB.out.cell (World.block_lt_of_cell? w _ vq)).trans vq),((HB.out.cell (World.block_lt_of_cell? w _ vp)).trans vp),((HB.out.cell (World.block_lt_of_cell? w _ vo)).trans vo),((HB.out.cell (World.block_lt_of_cell? w _ vn)).trans vn)⟩ (fun hHeld=>?_)
             clear hK K
             refine norm_ (a':=?_) ?_ ?_
             rotate_left
             ·show Act.put _ (some 115) _ = _
              simp only [Act.put,List.setIfInBounds_toArray,List.set_cons_zero,List.set_cons_succ,i64_w,i32_w]
              rfl
             refine pure_ (i:=8) (N:=some 116) (v:=?_) (a':=?_) b72q rfl rfl (any_of HT_.out (by kernel_rfl)) (fun _ _ _ h=>h) (Or.inl ⟨by rfl,?_⟩) ?_ ?_;rotate_left;(intro w';go_simp;with_reducible rfl);rotate_left;(exact z13a)
             refine pure_ (i:=9) (N:=some 117) (v:=?_) (a':=?_) b73q rfl rfl (any_of HT_.out (by kernel_rfl)) (fun _ _ _ h=>h) (Or.inl ⟨by rfl,?_⟩) ?_ ?_;rotate_left;(intro w';go_simp;with_reducible rfl);rotate_left;(exact z13a)
             refine pure_ (i:=10) (N:=some 118) (v:=undef) (a':=?_) b74q rfl rfl (any_of HT_.out (by kernel_rfl)) (fun _ _ _ h=>h) (Or.inr ⟨by rfl,rfl⟩) ?_ ?_
             rotate_left
             ·exact z13a
             refine pure_ (i:=11) (N:=some 119) (v:=undef) (a':=?_) b75q rfl rfl (any_of HT_.out (by kernel_rfl)) (fun _ _ _ h=>h) (Or.inr ⟨by rfl,rfl⟩) ?_ ?_
             rotate_left
             ·exact z13a
             refine pure_ (i:=12) (N:=some 120) (v:=undef) (a':=?_) b76q rfl rfl (any_of HT_.out (by kernel_rfl)) (fun _ _ _ h=>h) (Or.inr ⟨by rfl,rfl⟩) ?_ ?_
             rotate_left
             ·exact z13a
             refine pure_ (i:=13) (N:=some 121) (v:=undef) (a':=?_) b77q rfl rfl (any_of HT_.out (by kernel_rfl)) (fun _ _ _ h=>h) (Or.inr ⟨by rfl,rfl⟩) ?_ ?_
             rotate_left
             ·exact z13a
             refine pure_ (i:=14) (N:=some 122) (v:=undef) (a':=?_) b78q rfl rfl (any_of HT_.out (by kernel_rfl)) (fun _ _ _ h=>h) (Or.inr ⟨by rfl,rfl⟩) ?_ ?_
             rotate_left
             ·exact z13a
             refine pure_ (i:=15) (N:=some 123) (v:=undef) (a':=?_) b79q rfl rfl (any_of HT_.out (by kernel_rfl)) (fun _ _ _ h=>h) (Or.inr ⟨by rfl,rfl⟩) ?_ ?_
             rotate_left
             ·exact z13a
             refine pure_ (i:=16) (N:=some 124) (v:=undef) (a':=?_) b80q rfl rfl (any_of HT_.out (by kernel_rfl)) (fun _ _ _ h=>h) (Or.inr ⟨by rfl,rfl⟩) ?_ ?_
             rotate_left
             ·exact z13a
             refine pure_ (i:=17) (N:=some 125) (v:=undef) (a':=?_) b81q rfl rfl (any_of HT_.out (by kernel_rfl)) (fun _ _ _ h=>h) (Or.inr ⟨by rfl,rfl⟩) ?_ ?_
             rotate_left
             ·exact z13a
             refine pure_ (i:=18) (N:=some 126) (v:=undef) (a':=?_) b82q rfl rfl (any_of HT_.out (by kernel_rfl)) (fun _ _ _ h=>h) (Or.inr ⟨by rfl,rfl⟩) ?_ ?_
             rotate_left
             ·exact z13a
             refine pure_ (i:=19) (N:=some 127) (v:=undef) (a':=?_) b83q rfl rfl (any_of HT_.out (by kernel_rfl)) (fun _ _ _ h=>h) (Or.inr ⟨by rfl,rfl⟩) ?_ ?_
             rotate_left
             ·exact z13a
             refine pure_ (i:=20) (N:=some 128) (v:=undef) (a':=?_) b84q rfl rfl (any_of HT_.out (by kernel_rfl)) (fun _ _ _ h=>h) (Or.inr ⟨by rfl,rfl⟩) ?_ ?_
             rotate_left
             ·exact z13a
             refine pure_ (i:=21) (N:=some 129) (v:=undef) (a':=?_) b85q rfl rfl (any_of HT_.out (by kernel_rfl)) (fun _ _ _ h=>h) (Or.inr ⟨by rfl,rfl⟩) ?_ ?_
             rotate_left
             ·exact z13a
             refine pure_ (i:=22) (N:=some 130) (v:=undef) (a':=?_) b86q rfl rfl (any_of HT_.out (by kernel_rfl)) (fun _ _ _ h=>h) (Or.inr ⟨by rfl,rfl⟩) ?_ ?_
             rotate_left
             ·exact z13a
             refine pure_ (i:=23) (N:=some 131) (v:=undef) (a':=?_) b87q rfl rfl (any_of HT_.out (by kernel_rfl)) (fun _ _ _ h=>h) (Or.inr ⟨by rfl,rfl⟩) ?_ ?_
             rotate_left
             ·exact z13a
             refine pure_ (i:=24) (N:=some 132) (v:=undef) (a':=?_) b88q rfl rfl (any_of HT_.out (by kernel_rfl)) (fun _ _ _ h=>h) (Or.inr ⟨by rfl,rfl⟩) ?_ ?_
             rotate_left
             ·exact z13a
             refine pure_ (i:=25) (N:=some 133) (v:=undef) (a':=?_) b89q rfl rfl (any_of HT_.out (by kernel_rfl)) (fun _ _ _ h=>h) (Or.inr ⟨by rfl,rfl⟩) ?_ ?_
             rotate_left
             ·exact z13a
             refine pure_ (i:=26) (N:=some 134) (v:=undef) (a':=?_) b90q rfl rfl (any_of HT_.out (by kernel_rfl)) (fun _ _ _ h=>h) (Or.inr ⟨by rfl,rfl⟩) ?_ ?_
             rotate_left
             ·exact z13a
             refine pure_ (i:=27) (N:=some 135) (v:=undef) (a':=?_) b91q rfl rfl (any_of HT_.out (by kernel_rfl)) (fun _ _ _ h=>h) (Or.inr ⟨by rfl,rfl⟩) ?_ ?_
             rotate_left
             ·exact z13a
             refine pure_ (i:=28) (N:=some 136) (v:=?_) (a':=?_) b92q rfl rfl (any_of HT_.out (by kernel_rfl)) (fun _ _ _ h=>h) (Or.inl ⟨by rfl,?_⟩) ?_ ?_;rotate_left;(intro w';go_simp;with_reducible rfl);rotate_left;(exact z13a)
             refine done_ (done_of HT_.out (by kernel_rfl)) ?_
             try go_wp2
             go_ret
             exact ⟨by first|rfl|(simp [errW_none,errW_some] <;> rfl)|(simp [*,errW_none,errW_some] <;> rfl),by repeat (first|(with_reducible first|exact HB.out|apply below_alloc|apply pw_below_drewN|apply below_drew1|refine below_set ?_ vm.out)|exact HB.out)⟩
            subst qfs
            rw [if_pos rfl] at H
            by_cases pd : qk > 0
            rotate_left
            ·rw [if_neg pd] at H
             have qfr : decide (0 < qk) = false:=decide_eq_false pd
             clear pd
             have H':=Aside0.mk H
             clear H
             have qep : wr.cell? ⟨qb,0,none⟩ = some (.int .i64 qp):=(blk_cell qa.out 0).trans rfl
             have qeo : wr.cell? ⟨qb,1,none⟩ = some (.int .i64 ql):=(blk_cell qa.out 1).trans rfl
             have qen : wr.cell? ⟨qb,2,none⟩ = some (.slice wd qf.length qv):=(blk_cell qa.out 2).trans rfl
             have qem : wr.cell? ⟨qb,3,none⟩ = some (.slice wg qc.length qu):=(blk_cell qa.out 3).trans rfl
             have qel : wr.cell? ⟨qb,4,none⟩ = some (.slice qx qg.length qt):=(blk_cell qa.out 4).trans rfl
             have qek : wr.cell? ⟨qb,5,none⟩ = some (.slice qz qh.length qr):=(blk_cell qa.out 5).trans rfl
             have qcp:=blk_frozen qa.out 0
             have qco:=blk_frozen qa.out 1
             have qcn:=blk_frozen qa.out 2
             have qcm:=blk_frozen qa.out 3
             have qcl:=blk_frozen qa.out 4
             have qck:=blk_frozen qa.out 5
             try go_wp2
             have n0_:=Aside0.mk (blk_drew qa.out)
             have n1_:=Aside0.mk (below_drew1 HB.out)
             clear qa
             clear HB
             have qa:=n0_
             have HB:=n1_
             clear n0_ n1_
             have jv : 0 ≤ (qk : Int):=of_decide_eq_true (by first|(with_reducible assumption)|assumption)
             have ju : qk < (qg.length : Int):=of_decide_eq_true (by first|(with_reducible assumption)|assumption)
             obtain ⟨qq,pc,wl,wk,wj,wi⟩:=at_T113 jd.out qk jv ju
             have vn:=wi
             have vo:=wj
             have vp:=wk
             have vq:=wl
             cases pc
             replace wl:=(HB.out.cell (World.block_lt_of_cell? w _ wl)).trans wl
             replace wk:=(HB.out.cell (World.block_lt_of_cell? w _ wk)).trans wk
             replace wj:=(HB.out.cell (World.block_lt_of_cell? w _ wj)).trans wj
             replace wi:=(HB.out.cell (World.block_lt_of_cell? w _ wi)).trans wi
             replace jv:=eq_true jv
             replace ju:=eq_true ju
             refine start_ (n:=29) (S:=fun w' => w'.cell? ⟨qb,0,none⟩ = some (.int .i64 qp) ∧ w'.cell? ⟨qb,1,none⟩ = some (.int .i64 ql) ∧ w'.cell? ⟨qb,2,none⟩ = some (.slice wd qf.length qv) ∧ w'.cell? ⟨qb,3,none⟩ = some (.slice wg qc.length qu) ∧ w'.cell? ⟨qb,4,none⟩ = some (.slice (some qq) qg.length qt) ∧ w'.cell? ⟨qb,5,none⟩ = some (.slice qz qh.length qr) ∧ w'.cell? (qq.add ((qk).toNat * 4)) = some (.int .i64 ((rd_T113 qg qk).f0)) ∧ w'.cell? ⟨(qq.add ((qk).toNat * 4)).block,(qq.add ((qk).toNat * 4)).off + 1,none⟩ = some (.int .i64 ((rd_T113 qg qk).f1)) ∧ w'.cell? ⟨(qq.add ((qk).toNat * 4)).block,(qq.add ((qk).toNat * 4)).off + 2,none⟩ = some (.int .i64 ((rd_T113 qg qk).f2)) ∧ w'.cell? ⟨(qq.add ((qk).toNat * 4)).block,(qq.add ((qk).toNat * 4)).off + 3,none⟩ = some (.int .i64 ((rd_T113 qg qk).f3))) (ds:=[]) b63q (by kernel_rfl) rfl rfl ⟨(blk_cell qa.out 0).trans rfl,(blk_cell qa.out 1).trans rfl,(blk_cell qa.out 2).trans rfl,(blk_cell qa.out 3).trans rfl,(blk_cell qa.out 4).trans rfl,(blk_cell qa.out 5).trans rfl,((HB.out.cell (World.block_lt_of_cell? w _ vq)).trans vq),((HB.out.cell (World.block_lt_of_cell? w _ vp)).trans vp),((HB.out.cell (World.block_lt_of_cell? w _ vo)).trans vo),((HB.out.cell (World.block_lt_of_cell? w _ vn)).trans vn)⟩ (fun hHeld=>?_);refine with_tabW spec_ClientOk.tab18 spec_ClientOk.bits18 (fun HT_ HW_=>?_)
             generalize wr.drew = waa at qa HB wl wk wj wi hHeld ⊢
             refine pure_ (i:=0) (N:=some 108) (v:=?_) (a':=?_) b64q rfl rfl (any_of HT_.out (by kernel_rfl)) (fun _ _ _ h=>h) (Or.inl ⟨by rfl,?_⟩) ?_ ?_;rotate_left;(intro w';go_simp;with_reducible rfl);rotate_left;(exact z13a)
             refine pure_ (i:=2) (N:=some 110) (v:=?_) (a':=?_) b65q rfl rfl (any_of HT_.out (by kernel_rfl)) (fun _ _ _ h=>h) (Or.inl ⟨by rfl,?_⟩) ?_ ?_;rotate_left;(intro w';go_simp;with_reducible rfl);rotate_left;(exact z13a)
             refine pure_ (i:=5) (N:=some 113) (v:=?_) (a':=?_) b66q rfl rfl (any_of HT_.out (by kernel_rfl)) (fun _ _ _ h=>h) (Or.inl ⟨by rfl,?_⟩) ?_ ?_;rotate_left;(intro w';go_simp;with_reducible rfl);rotate_left;(exact z13a)
             refine take_ (i:=1) (N:=some 109) (v:=?_) (a':=?_) b67q rfl rfl (take_ofW HT_.out HW_.out (by kernel_rfl)) (fun _ _ _ h=>h) (Or.inl ⟨by rfl,?_⟩) hHeld ?_ ?_;rotate_left;(rintro w' ⟨s0,s1,s2,s3,s4,s5,s6,s7,s8,s9⟩;go_simp;with_reducible rfl);rotate_left;(exact z13a)
             refine pure_ (i:=3) (N:=some 111) (v:=?_) (a':=?_) b68q rfl rfl (any_of HT_.out (by kernel_rfl)) (fun _ _ _ h=>h) (Or.inl ⟨by rfl,?_⟩) ?_ ?_;rotate_left;(intro w';go_simp;with_reducible rfl);rotate_left;(exact z13a)
             refine take_ (i:=4) (N:=some 112) (v:=?_) (a':=?_) b69q rfl rfl (take_ofW HT_.out HW_.out (by kernel_rfl)) (fun _ _ _ h=>h) (Or.inl ⟨by rfl,?_⟩) hHeld ?_ ?_;rotate_left;(rintro w' ⟨s0,s1,s2,s3,s4,s5,s6,s7,s8,s9⟩;go_simp;with_reducible rfl);rotate_left;(exact z13a)
             refine take_ (i:=6) (N:=some 114) (v:=?_) (a':=?_) b70q rfl rfl (take_ofW HT_.out HW_.out (by kernel_rfl)) (fun _ _ _ h=>h) (Or.inl ⟨by rfl,?_⟩) hHeld ?_ ?_;rotate_left;(rintro w' ⟨s0,s1,s2,s3,s4,s5,s6,s7,s8,s9⟩;go_simp;with_reducible rfl);rotate_left;(exact z13a)
             refine one_ (i:=7) (N:=some 115) b71q rfl rfl (one_of HT_.out (by kernel_rfl)) (by decide) (fun K hK=>?_)
             refine goes_ Try.func116 (by kernel_rfl) rfl #[.agg #[.int .i64 ((rd_T113 qg qk).f0),.int .i64 ((rd_T113 qg qk).f1),.int .i64 ((rd_T113 qg qk).f2),.int .i64 ((rd_T113 qg qk).f3)],.int .i64 ql] (by rfl) rfl rfl z13x9 ?_
             with_reducible refine (spec_l12Call.calls ((rd_T113 qg qk).f0) ((rd_T113 qg qk).f1) ((rd_T113 qg qk).f2) ((rd_T113 qg qk).f3) ql true _ qgb.out).mono ?_
             rintro e qzz ⟨rfl,hb⟩
             refine ⟨_,rfl,?_⟩
             have n0_:=Aside0.mk (blk_below (g:=qb) (o:=.cells #[.int .i64 qp,.int .i64 ql,.slice wd qf.length qv,.slice wg qc.length qu,.slice (some qq) qg.length qt,.slice qz qh.length qr] 28 (0,0)) z13x11 hb)
             have n1_:=Aside0.mk (below_step z13x8 hb)
             clear qa
             clear HB
             have qa:=n0_
             have HB:=n1_
             clear n0_ n1_
             (try clear hb)
             (try clear hb2)
             (try clear hk)
             (try clear hi)
             refine hK.out _ _ ⟨(blk_cell qa.out 0).trans rfl,(blk_cell qa.out 1).trans rfl,(blk_cell qa.out 2).trans rfl,(blk_cell qa.out 3).trans rfl,(blk_cell qa.out 4).trans rfl,(blk_cell qa.out 5).trans rfl,((HB.out.cell (World.block_lt_of_cell? w _ vq)).trans vq),((HB.out.cell (World.block_lt_of_cell? w _ vp)).trans vp),((HB.out.cell (World.block_lt_of_cell? w _ vo)).trans vo),((HB.out.cell (World.block_lt_of_cell? w _ vn)).trans vn)⟩ (fun hHeld=>?_)
             clear hK K
             refine norm_ (a':=?_) ?_ ?_
             rotate_left
             ·show Act.put _ (some 115) _ = _
              simp only [Act.put,List.setIfInBounds_toArray,List.set_cons_zero,List.set_cons_succ,i64_w,i32_w]
              rfl
             refine pure_ (i:=8) (N:=some 116) (v:=?_) (a':=?_) b72q rfl rfl (any_of HT_.out (by kernel_rfl)) (fun _ _ _ h=>h) (Or.inl ⟨by rfl,?_⟩) ?_ ?_;rotate_left;(intro w';go_simp;with_reducible rfl);rotate_left;(exact z13a)
             refine pure_ (i:=9) (N:=some 117) (v:=?_) (a':=?_) b73q rfl rfl (any_of HT_.out (by kernel_rfl)) (fun _ _ _ h=>h) (Or.inl ⟨by rfl,?_⟩) ?_ ?_;rotate_left;(intro w';go_simp;with_reducible rfl);rotate_left;(exact z13a)
             refine pure_ (i:=10) (N:=some 118) (v:=?_) (a':=?_) b74q rfl rfl (any_of HT_.out (by kernel_rfl)) (fun _ _ _ h=>h) (Or.inl ⟨by rfl,?_⟩) ?_ ?_;rotate_left;(intro w';go_simp;with_reducible rfl);rotate_left;(exact z13a)
             refine pure_ (i:=11) (N:=some 119) (v:=?_) (a':=?_) b75q rfl rfl (any_of HT_.out (by kernel_rfl)) (fun _ _ _ h=>h) (Or.inl ⟨by rfl,?_⟩) ?_ ?_;rotate_left;(intro w';go_simp;with_reducible rfl);rotate_left;(exact z13a)
             refine pure_ (i:=12) (N:=some 120) (v:=?_) (a':=?_) b76q rfl rfl (any_of HT_.out (by kernel_rfl)) (fun _ _ _ h=>h) (Or.inl ⟨by rfl,?_⟩) ?_ ?_;rotate_left;(intro w';go_simp;with_reducible rfl);rotate_left;(exact z13a)
             refine pure_ (i:=13) (N:=some 121) (v:=undef) (a':=?_) b77q rfl rfl (any_of HT_.out (by kernel_rfl)) (fun _ _ _ h=>h) (Or.inr ⟨by rfl,rfl⟩) ?_ ?_
             rotate_left
             ·exact z13a
             refine pure_ (i:=14) (N:=some 122) (v:=undef) (a':=?_) b78q rfl rfl (any_of HT_.out (by kernel_rfl)) (fun _ _ _ h=>h) (Or.inr ⟨by rfl,rfl⟩) ?_ ?_
             rotate_left
             ·exact z13a
             refine pure_ (i:=15) (N:=some 123) (v:=undef) (a':=?_) b79q rfl rfl (any_of HT_.out (by kernel_rfl)) (fun _ _ _ h=>h) (Or.inr ⟨by rfl,rfl⟩) ?_ ?_
             rotate_left
             ·exact z13a
             refine pure_ (i:=16) (N:=some 124) (v:=undef) (a':=?_) b80q rfl rfl (any_of HT_.out (by kernel_rfl)) (fun _ _ _ h=>h) (Or.inr ⟨by rfl,rfl⟩) ?_ ?_
             rotate_left
             ·exact z13a
             refine pure_ (i:=17) (N:=some 125) (v:=undef) (a':=?_) b81q rfl rfl (any_of HT_.out (by kernel_rfl)) (fun _ _ _ h=>h) (Or.inr ⟨by rfl,rfl⟩) ?_ ?_
             rotate_left
             ·exact z13a
             refine pure_ (i:=18) (N:=some 126) (v:=undef) (a':=?_) b82q rfl rfl (any_of HT_.out (by kernel_rfl)) (fun _ _ _ h=>h) (Or.inr ⟨by rfl,rfl⟩) ?_ ?_
             rotate_left
             ·exact z13a
             refine pure_ (i:=19) (N:=some 127) (v:=undef) (a':=?_) b83q rfl rfl (any_of HT_.out (by kernel_rfl)) (fun _ _ _ h=>h) (Or.inr ⟨by rfl,rfl⟩) ?_ ?_
             rotate_left
             ·exact z13a
             refine pure_ (i:=20) (N:=some 128) (v:=undef) (a':=?_) b84q rfl rfl (any_of HT_.out (by kernel_rfl)) (fun _ _ _ h=>h) (Or.inr ⟨by rfl,rfl⟩) ?_ ?_
             rotate_left
             ·exact z13a
             refine pure_ (i:=21) (N:=some 129) (v:=undef) (a':=?_) b85q rfl rfl (any_of HT_.out (by kernel_rfl)) (fun _ _ _ h=>h) (Or.inr ⟨by rfl,rfl⟩) ?_ ?_
             rotate_left
             ·exact z13a
             refine pure_ (i:=22) (N:=some 130) (v:=undef) (a':=?_) b86q rfl rfl (any_of HT_.out (by kernel_rfl)) (fun _ _ _ h=>h) (Or.inr ⟨by rfl,rfl⟩) ?_ ?_
             rotate_left
             ·exact z13a
             refine pure_ (i:=23) (N:=some 131) (v:=undef) (a':=?_) b87q rfl rfl (any_of HT_.out (by kernel_rfl)) (fun _ _ _ h=>h) (Or.inr ⟨by rfl,rfl⟩) ?_ ?_
             rotate_left
             ·exact z13a
             refine pure_ (i:=24) (N:=some 132) (v:=undef) (a':=?_) b88q rfl rfl (any_of HT_.out (by kernel_rfl)) (fun _ _ _ h=>h) (Or.inr ⟨by rfl,rfl⟩) ?_ ?_
             rotate_left
             ·exact z13a
             refine pure_ (i:=25) (N:=some 133) (v:=undef) (a':=?_) b89q rfl rfl (any_of HT_.out (by kernel_rfl)) (fun _ _ _ h=>h) (Or.inr ⟨by rfl,rfl⟩) ?_ ?_
             rotate_left
             ·exact z13a
             refine pure_ (i:=26) (N:=some 134) (v:=undef) (a':=?_) b90q rfl rfl (any_of HT_.out (by kernel_rfl)) (fun _ _ _ h=>h) (Or.inr ⟨by rfl,rfl⟩) ?_ ?_
             rotate_left
             ·exact z13a
             refine pure_ (i:=27) (N:=some 135) (v:=?_) (a':=?_) b91q rfl rfl (any_of HT_.out (by kernel_rfl)) (fun _ _ _ h=>h) (Or.inl ⟨by rfl,?_⟩) ?_ ?_;rotate_left;(intro w';go_simp;with_reducible rfl);rotate_left;(exact z13a)
             refine pure_ (i:=28) (N:=some 136) (v:=?_) (a':=?_) b92q rfl rfl (any_of HT_.out (by kernel_rfl)) (fun _ _ _ h=>h) (Or.inl ⟨by rfl,?_⟩) ?_ ?_;rotate_left;(intro w';go_simp;with_reducible rfl);rotate_left;(exact z13a)
             refine done_ (done_of HT_.out (by kernel_rfl)) ?_
             try go_wp2
             go_roundg k4
             case measure=>have:=HJ1.out;have:=HK2.out;have:=HK3.out;have:=HK4.out;omega
             case rel=>exact ⟨(wrap64 (qk + 1)),(by first|rfl|(simp;done)|(simp [*];done)),H',⟨by have:=HJ1.out;have:=HK2.out;have:=HK3.out;have:=HK4.out;omega⟩,⟨by (with_reducible repeat (first|refine blk_drewN ?_ _|refine blk_drew ?_|refine blk_alloc ?_ _));exact qa.out⟩,⟨by repeat (first|(with_reducible first|exact HB.out|apply below_alloc|apply pw_below_drewN|apply below_drew1|refine below_set ?_ vm.out)|exact HB.out)⟩⟩
            rw [if_pos pd] at H
            have qfr : decide (0 < qk) = true:=decide_eq_true pd
            clear pd
            obtain ⟨wy,gb⟩ : ∃ j_ : Int,(wrap64 (qk - 1)) = j_:=⟨_,rfl⟩
            replace H : (if 0 ≤ (wy) then (if (wy) < (qg.length : Int) then (if ((rd_T113 qg (wy)).f3) ≥ ((rd_T113 qg qk).f3) then (some false) else (spec_ClientOk.l2 k4 (wrap64 (qk + 1)) qp ql qf qc qg qh)) else (none)) else (none)) = some r:=by first|(rw [gb] at H;exact H)|(simp only [gb] at H ⊢; exact H)
            (try rw [gb] at qgb)
            have hji110w : (IntKind.i64.wrap (qk - 1)) = wy:=(i64_w _).trans gb
            by_cases qfp : 0 ≤ (wy)
            rotate_left
            ·rw [if_neg qfp] at H
             exact absurd H (by simp)
            rw [if_pos qfp] at H
            have qyi : decide (0 ≤ (wy)) = true:=decide_eq_true qfp
            clear qfp
            by_cases qfo : (wy) < (qg.length : Int)
            rotate_left
            ·rw [if_neg qfo] at H
             exact absurd H (by simp)
            rw [if_pos qfo] at H
            have qyh : decide ((wy) < (qg.length : Int)) = true:=decide_eq_true qfo
            clear qfo
            by_cases qbf : ((rd_T113 qg (wy)).f3) ≥ ((rd_T113 qg qk).f3)
            ·rw [if_pos qbf] at H
             have qsx : decide (((rd_T113 qg qk).f3) ≤ ((rd_T113 qg (wy)).f3)) = true:=decide_eq_true qbf
             clear qbf
             obtain rfl:=Option.some.inj H
             have qvs : wr.cell? ⟨qb,0,none⟩ = some (.int .i64 qp):=(blk_cell qa.out 0).trans rfl
             have qvr : wr.cell? ⟨qb,1,none⟩ = some (.int .i64 ql):=(blk_cell qa.out 1).trans rfl
             have qvq : wr.cell? ⟨qb,2,none⟩ = some (.slice wd qf.length qv):=(blk_cell qa.out 2).trans rfl
             have qvp : wr.cell? ⟨qb,3,none⟩ = some (.slice wg qc.length qu):=(blk_cell qa.out 3).trans rfl
             have qvo : wr.cell? ⟨qb,4,none⟩ = some (.slice qx qg.length qt):=(blk_cell qa.out 4).trans rfl
             have qvn : wr.cell? ⟨qb,5,none⟩ = some (.slice qz qh.length qr):=(blk_cell qa.out 5).trans rfl
             have qui:=blk_frozen qa.out 0
             have quh:=blk_frozen qa.out 1
             have qug:=blk_frozen qa.out 2
             have quf:=blk_frozen qa.out 3
             have que:=blk_frozen qa.out 4
             have qud:=blk_frozen qa.out 5
             try go_wp2
             have n0_:=Aside0.mk (blk_drew qa.out)
             have n1_:=Aside0.mk (below_drew1 HB.out)
             clear qa
             clear HB
             have qa:=n0_
             have HB:=n1_
             clear n0_ n1_
             have jv : 0 ≤ (qk : Int):=of_decide_eq_true (by first|(with_reducible assumption)|assumption)
             have ju : qk < (qg.length : Int):=of_decide_eq_true (by first|(with_reducible assumption)|assumption)
             obtain ⟨qq,pc,wl,wk,wj,wi⟩:=at_T113 jd.out qk jv ju
             have vn:=wi
             have vo:=wj
             have vp:=wk
             have vq:=wl
             cases pc
             replace wl:=(HB.out.cell (World.block_lt_of_cell? w _ wl)).trans wl
             replace wk:=(HB.out.cell (World.block_lt_of_cell? w _ wk)).trans wk
             replace wj:=(HB.out.cell (World.block_lt_of_cell? w _ wj)).trans wj
             replace wi:=(HB.out.cell (World.block_lt_of_cell? w _ wi)).trans wi
             replace jv:=eq_true jv
             replace ju:=eq_true ju
             have pa : 0 ≤ ((wy) : Int):=of_decide_eq_true (by first|(with_reducible assumption)|assumption)
             have gw : (wy) < (qg.length : Int):=of_decide_eq_true (by first|(with_reducible assumption)|assumption)
             obtain ⟨qfx,qsu,uy,ux,uw,uv⟩:=at_T113 jd.out (wy) pa gw
             have jj:=uv
             have jk:=uw
             have jl:=ux
             have jm:=uy
             obtain rfl : qq = qfx:=(by injection qsu)
             replace uy:=(HB.out.cell (World.block_lt_of_cell? w _ uy)).trans uy
             replace ux:=(HB.out.cell (World.block_lt_of_cell? w _ ux)).trans ux
             replace uw:=(HB.out.cell (World.block_lt_of_cell? w _ uw)).trans uw
             replace uv:=(HB.out.cell (World.block_lt_of_cell? w _ uv)).trans uv
             replace pa:=eq_true pa
             replace gw:=eq_true gw
             have gz : 0 ≤ (qk : Int):=of_decide_eq_true (by first|(with_reducible assumption)|assumption)
             have gv : qk < (qg.length : Int):=of_decide_eq_true (by first|(with_reducible assumption)|assumption)
             obtain ⟨qfw,qst,uu,ut,us,ur⟩:=at_T113 jd.out qk gz gv
             have jf:=ur
             have jg:=us
             have jh:=ut
             have ji:=uu
             obtain rfl : qq = qfw:=(by injection qst)
             replace uu:=(HB.out.cell (World.block_lt_of_cell? w _ uu)).trans uu
             replace ut:=(HB.out.cell (World.block_lt_of_cell? w _ ut)).trans ut
             replace us:=(HB.out.cell (World.block_lt_of_cell? w _ us)).trans us
             replace ur:=(HB.out.cell (World.block_lt_of_cell? w _ ur)).trans ur
             replace gz:=eq_true gz
             replace gv:=eq_true gv
             refine start_ (n:=29) (S:=fun w' => w'.cell? ⟨qb,0,none⟩ = some (.int .i64 qp) ∧ w'.cell? ⟨qb,1,none⟩ = some (.int .i64 ql) ∧ w'.cell? ⟨qb,2,none⟩ = some (.slice wd qf.length qv) ∧ w'.cell? ⟨qb,3,none⟩ = some (.slice wg qc.length qu) ∧ w'.cell? ⟨qb,4,none⟩ = some (.slice (some qq) qg.length qt) ∧ w'.cell? ⟨qb,5,none⟩ = some (.slice qz qh.length qr) ∧ w'.cell? (qq.add ((qk).toNat * 4)) = some (.int .i64 ((rd_T113 qg qk).f0)) ∧ w'.cell? ⟨(qq.add ((qk).toNat * 4)).block,(qq.add ((qk).toNat * 4)).off + 1,none⟩ = some (.int .i64 ((rd_T113 qg qk).f1)) ∧ w'.cell? ⟨(qq.add ((qk).toNat * 4)).block,(qq.add ((qk).toNat * 4)).off + 2,none⟩ = some (.int .i64 ((rd_T113 qg qk).f2)) ∧ w'.cell? ⟨(qq.add ((qk).toNat * 4)).block,(qq.add ((qk).toNat * 4)).off + 3,none⟩ = some (.int .i64 ((rd_T113 qg qk).f3)) ∧ w'.cell? (qq.add (((wy)).toNat * 4)) = some (.int .i64 ((rd_T113 qg (wy)).f0)) ∧ w'.cell? ⟨(qq.add (((wy)).toNat * 4)).block,(qq.add (((wy)).toNat * 4)).off + 1,none⟩ = some (.int .i64 ((rd_T113 qg (wy)).f1)) ∧ w'.cell? ⟨(qq.add (((wy)).toNat * 4)).block,(qq.add (((wy)).toNat * 4)).off + 2,none⟩ = some (.int .i64 ((rd_T113 qg (wy)).f2)) ∧ w'.cell? ⟨(qq.add (((wy)).toNat * 4)).block,(qq.add (((wy)).toNat * 4)).off + 3,none⟩ = some (.int .i64 ((rd_T113 qg (wy)).f3)) ∧ w'.cell? (qq.add ((qk).toNat * 4)) = some (.int .i64 ((rd_T113 qg qk).f0)) ∧ w'.cell? ⟨(qq.add ((qk).toNat * 4)).block,(qq.add ((qk).toNat * 4)).off + 1,none⟩ = some (.int .i64 ((rd_T113 qg qk).f1)) ∧ w'.cell? ⟨(qq.add ((qk).toNat * 4)).block,(qq.add ((qk).toNat * 4)).off + 2,none⟩ = some (.int .i64 ((rd_T113 qg qk).f2)) ∧ w'.cell? ⟨(qq.add ((qk).toNat * 4)).block,(qq.add ((qk).toNat * 4)).off + 3,none⟩ = some (.int .i64 ((rd_T113 qg qk).f3))) (ds:=[]) b63q (by kernel_rfl) rfl rfl ⟨(blk_cell qa.out 0).trans rfl,(blk_cell qa.out 1).trans rfl,(blk_cell qa.out 2).trans rfl,(blk_cell qa.out 3).trans rfl,(blk_cell qa.out 4).trans rfl,(blk_cell qa.out 5).trans rfl,((HB.out.cell (World.block_lt_of_cell? w _ vq)).trans vq),((HB.out.cell (World.block_lt_of_cell? w _ vp)).trans vp),((HB.out.cell (World.block_lt_of_cell? w _ vo)).trans vo),((HB.out.cell (World.block_lt_of_cell? w _ vn)).trans vn),((HB.out.cell (World.block_lt_of_cell? w _ jm)).trans jm),((HB.out.cell (World.block_lt_of_cell? w _ jl)).trans jl),((HB.out.cell (World.block_lt_of_cell? w _ jk)).trans jk),((HB.out.cell (World.block_lt_of_cell? w _ jj)).trans jj),((HB.out.cell (World.block_lt_of_cell? w _ ji)).trans ji),((HB.out.cell (World.block_lt_of_cell? w _ jh)).trans jh),((HB.out.cell (World.block_lt_of_cell? w _ jg)).trans jg),((HB.out.cell (World.block_lt_of_cell? w _ jf)).trans jf)⟩ (fun hHeld=>?_);refine with_tabW spec_ClientOk.tab18 spec_ClientOk.bits18 (fun HT_ HW_=>?_)
             generalize wr.drew = wae at qa HB wl wk wj wi uy ux uw uv uu ut us ur hHeld ⊢
             refine pure_ (i:=0) (N:=some 108) (v:=?_) (a':=?_) b64q rfl rfl (any_of HT_.out (by kernel_rfl)) (fun _ _ _ h=>h) (Or.inl ⟨by rfl,?_⟩) ?_ ?_;rotate_left;(intro w';go_simp;with_reducible rfl);rotate_left;(exact z13a)
             refine pure_ (i:=2) (N:=some 110) (v:=?_) (a':=?_) b65q rfl rfl (any_of HT_.out (by kernel_rfl)) (fun _ _ _ h=>h) (Or.inl ⟨by rfl,?_⟩) ?_ ?_;rotate_left;(intro w';go_simp;with_reducible rfl);rotate_left;(exact z13a)
             refine pure_ (i:=5) (N:=some 113) (v:=?_) (a':=?_) b66q rfl rfl (any_of HT_.out (by kernel_rfl)) (fun _ _ _ h=>h) (Or.inl ⟨by rfl,?_⟩) ?_ ?_;rotate_left;(intro w';go_simp;with_reducible rfl);rotate_left;(exact z13a)
             refine take_ (i:=1) (N:=some 109) (v:=?_) (a':=?_) b67q rfl rfl (take_ofW HT_.out HW_.out (by kernel_rfl)) (fun _ _ _ h=>h) (Or.inl ⟨by rfl,?_⟩) hHeld ?_ ?_;rotate_left;(rintro w' ⟨s0,s1,s2,s3,s4,s5,s6,s7,s8,s9,s10,s11,s12,s13,s14,s15,s16,s17⟩;go_simp;with_reducible rfl);rotate_left;(exact z13a)
             refine pure_ (i:=3) (N:=some 111) (v:=?_) (a':=?_) b68q rfl rfl (any_of HT_.out (by kernel_rfl)) (fun _ _ _ h=>h) (Or.inl ⟨by rfl,?_⟩) ?_ ?_;rotate_left;(intro w';go_simp;with_reducible rfl);rotate_left;(exact z13a)
             refine take_ (i:=4) (N:=some 112) (v:=?_) (a':=?_) b69q rfl rfl (take_ofW HT_.out HW_.out (by kernel_rfl)) (fun _ _ _ h=>h) (Or.inl ⟨by rfl,?_⟩) hHeld ?_ ?_;rotate_left;(rintro w' ⟨s0,s1,s2,s3,s4,s5,s6,s7,s8,s9,s10,s11,s12,s13,s14,s15,s16,s17⟩;go_simp;with_reducible rfl);rotate_left;(exact z13a)
             refine take_ (i:=6) (N:=some 114) (v:=?_) (a':=?_) b70q rfl rfl (take_ofW HT_.out HW_.out (by kernel_rfl)) (fun _ _ _ h=>h) (Or.inl ⟨by rfl,?_⟩) hHeld ?_ ?_;rotate_left;(rintro w' ⟨s0,s1,s2,s3,s4,s5,s6,s7,s8,s9,s10,s11,s12,s13,s14,s15,s16,s17⟩;go_simp;with_reducible rfl);rotate_left;(exact z13a)
             refine one_ (i:=7) (N:=some 115) b71q rfl rfl (one_of HT_.out (by kernel_rfl)) (by decide) (fun K hK=>?_)
             refine goes_ Try.func116 (by kernel_rfl) rfl #[.agg #[.int .i64 ((rd_T113 qg qk).f0),.int .i64 ((rd_T113 qg qk).f1),.int .i64 ((rd_T113 qg qk).f2),.int .i64 ((rd_T113 qg qk).f3)],.int .i64 ql] (by rfl) rfl rfl z13x9 ?_
             with_reducible refine (spec_l12Call.calls ((rd_T113 qg qk).f0) ((rd_T113 qg qk).f1) ((rd_T113 qg qk).f2) ((rd_T113 qg qk).f3) ql true _ qgb.out).mono ?_
             rintro e wad ⟨rfl,hb⟩
             refine ⟨_,rfl,?_⟩
             have n0_:=Aside0.mk (blk_below (g:=qb) (o:=.cells #[.int .i64 qp,.int .i64 ql,.slice wd qf.length qv,.slice wg qc.length qu,.slice (some qq) qg.length qt,.slice qz qh.length qr] 28 (0,0)) z13x11 hb)
             have n1_:=Aside0.mk (below_step z13x8 hb)
             clear qa
             clear HB
             have qa:=n0_
             have HB:=n1_
             clear n0_ n1_
             (try clear hb)
             (try clear hb2)
             (try clear hk)
             (try clear hi)
             refine hK.out _ _ ⟨(blk_cell qa.out 0).trans rfl,(blk_cell qa.out 1).trans rfl,(blk_cell qa.out 2).trans rfl,(blk_cell qa.out 3).trans rfl,(blk_cell qa.out 4).trans rfl,(blk_cell qa.out 5).trans rfl,((HB.out.cell (World.block_lt_of_cell? w _ vq)).trans vq),((HB.out.cell (World.block_lt_of_cell? w _ vp)).trans vp),((HB.out.cell (World.block_lt_of_cell? w _ vo)).trans vo),((HB.out.cell (World.block_lt_of_cell? w _ vn)).trans vn),((HB.out.cell (World.block_lt_of_cell? w _ jm)).trans jm),((HB.out.cell (World.block_lt_of_cell? w _ jl)).trans jl),((HB.out.cell (World.block_lt_of_cell? w _ jk)).trans jk),((HB.out.cell (World.block_lt_of_cell? w _ jj)).trans jj),((HB.out.cell (World.block_lt_of_cell? w _ ji)).trans ji),((HB.out.cell (World.block_lt_of_cell? w _ jh)).trans jh),((HB.out.cell (World.block_lt_of_cell? w _ jg)).trans jg),((HB.out.cell (World.block_lt_of_cell? w _ jf)).trans jf)⟩ (fun hHeld=>?_)
             clear hK K
             refine norm_ (a':=?_) ?_ ?_
             rotate_left
             ·show Act.put _ (some 115) _ = _
              simp only [Act.put,List.setIfInBounds_toArray,List.set_cons_zero,List.set_cons_succ,i64_w,i32_w]
              rfl
             refine pure_ (i:=8) (N:=some 116) (v:=?_) (a':=?_) b72q rfl rfl (any_of HT_.out (by kernel_rfl)) (fun _ _ _ h=>h) (Or.inl ⟨by rfl,?_⟩) ?_ ?_;rotate_left;(intro w';go_simp;with_reducible rfl);rotate_left;(exact z13a)
             refine pure_ (i:=9) (N:=some 117) (v:=?_) (a':=?_) b73q rfl rfl (any_of HT_.out (by kernel_rfl)) (fun _ _ _ h=>h) (Or.inl ⟨by rfl,?_⟩) ?_ ?_;rotate_left;(intro w';go_simp;with_reducible rfl);rotate_left;(exact z13a)
             refine pure_ (i:=10) (N:=some 118) (v:=?_) (a':=?_) b74q rfl rfl (any_of HT_.out (by kernel_rfl)) (fun _ _ _ h=>h) (Or.inl ⟨by rfl,?_⟩) ?_ ?_;rotate_left;(intro w';go_simp;with_reducible rfl);rotate_left;(exact z13a)
             refine pure_ (i:=11) (N:=some 119) (v:=?_) (a':=?_) b75q rfl rfl (any_of HT_.out (by kernel_rfl)) (fun _ _ _ h=>h) (Or.inl ⟨by rfl,?_⟩) ?_ ?_;rotate_left;(intro w';go_simp;with_reducible rfl);rotate_left;(exact z13a)
             refine pure_ (i:=12) (N:=some 120) (v:=?_) (a':=?_) b76q rfl rfl (any_of HT_.out (by kernel_rfl)) (fun _ _ _ h=>h) (Or.inl ⟨by rfl,?_⟩) ?_ ?_;rotate_left;(intro w';go_simp;with_reducible rfl);rotate_left;(exact z13a)
             refine pure_ (i:=13) (N:=some 121) (v:=?_) (a':=?_) b77q rfl rfl (any_of HT_.out (by kernel_rfl)) (fun _ _ _ h=>h) (Or.inl ⟨by rfl,?_⟩) ?_ ?_;rotate_left;(intro w';go_simp;with_reducible rfl);rotate_left;(exact z13a)
             refine pure_ (i:=15) (N:=some 123) (v:=?_) (a':=?_) b93q rfl rfl (any_of HT_.out (by kernel_rfl)) (fun _ _ _ h=>h) (Or.inl ⟨by rfl,?_⟩) ?_ ?_;rotate_left;(intro w';go_simp;with_reducible rfl);rotate_left;(exact z13a)
             refine pure_ (i:=16) (N:=some 124) (v:=?_) (a':=?_) b94q rfl rfl (any_of HT_.out (by kernel_rfl)) (fun _ _ _ h=>h) (Or.inl ⟨by rfl,?_⟩) ?_ ?_;rotate_left;(intro w';go_simp;with_reducible rfl);rotate_left;(exact z13a)
             refine pure_ (i:=20) (N:=some 128) (v:=?_) (a':=?_) b95q rfl rfl (any_of HT_.out (by kernel_rfl)) (fun _ _ _ h=>h) (Or.inl ⟨by rfl,?_⟩) ?_ ?_;rotate_left;(intro w';go_simp;with_reducible rfl);rotate_left;(exact z13a)
             refine pure_ (i:=22) (N:=some 130) (v:=?_) (a':=?_) b96q rfl rfl (any_of HT_.out (by kernel_rfl)) (fun _ _ _ h=>h) (Or.inl ⟨by rfl,?_⟩) ?_ ?_;rotate_left;(intro w';go_simp;with_reducible rfl);rotate_left;(exact z13a)
             refine take_ (i:=14) (N:=some 122) (v:=?_) (a':=?_) b97q rfl rfl (take_ofW HT_.out HW_.out (by kernel_rfl)) (fun _ _ _ h=>h) (Or.inl ⟨by rfl,?_⟩) hHeld ?_ ?_;rotate_left;(rintro w' ⟨s0,s1,s2,s3,s4,s5,s6,s7,s8,s9,s10,s11,s12,s13,s14,s15,s16,s17⟩;go_simp;with_reducible rfl);rotate_left;(exact z13a)
             refine pure_ (i:=17) (N:=some 125) (v:=?_) (a':=?_) b98q rfl rfl (any_of HT_.out (by kernel_rfl)) (fun _ _ _ h=>h) (Or.inl ⟨by rfl,?_⟩) ?_ ?_;rotate_left;(intro w';go_simp;with_reducible rfl);rotate_left;(exact z13a)
             refine pure_ (i:=18) (N:=some 126) (v:=?_) (a':=?_) b99q rfl rfl (any_of HT_.out (by kernel_rfl)) (fun _ _ _ h=>h) (Or.inl ⟨by rfl,?_⟩) ?_ ?_;rotate_left;(intro w';go_simp;with_reducible rfl);rotate_left;(exact z13a)
             refine take_ (i:=19) (N:=some 127) (v:=?_) (a':=?_) b100q rfl rfl (take_ofW HT_.out HW_.out (by kernel_rfl)) (fun _ _ _ h=>h) (Or.inl ⟨by rfl,?_⟩) hHeld ?_ ?_;rotate_left;(rintro w' ⟨s0,s1,s2,s3,s4,s5,s6,s7,s8,s9,s10,s11,s12,s13,s14,s15,s16,s17⟩;go_simp;with_reducible rfl);rotate_left;(exact z13a)
             refine take_ (i:=21) (N:=some 129) (v:=?_) (a':=?_) b86q rfl rfl (take_ofW HT_.out HW_.out (by kernel_rfl)) (fun _ _ _ h=>h) (Or.inl ⟨by rfl,?_⟩) hHeld ?_ ?_;rotate_left;(rintro w' ⟨s0,s1,s2,s3,s4,s5,s6,s7,s8,s9,s10,s11,s12,s13,s14,s15,s16,s17⟩;go_simp;with_reducible rfl);rotate_left;(exact z13a)
             refine pure_ (i:=23) (N:=some 131) (v:=?_) (a':=?_) b87q rfl rfl (any_of HT_.out (by kernel_rfl)) (fun _ _ _ h=>h) (Or.inl ⟨by rfl,?_⟩) ?_ ?_;rotate_left;(intro w';go_simp;with_reducible rfl);rotate_left;(exact z13a)
             refine pure_ (i:=24) (N:=some 132) (v:=?_) (a':=?_) b88q rfl rfl (any_of HT_.out (by kernel_rfl)) (fun _ _ _ h=>h) (Or.inl ⟨by rfl,?_⟩) ?_ ?_;rotate_left;(intro w';go_simp;with_reducible rfl);rotate_left;(exact z13a)
             refine take_ (i:=25) (N:=some 133) (v:=?_) (a':=?_) b89q rfl rfl (take_ofW HT_.out HW_.out (by kernel_rfl)) (fun _ _ _ h=>h) (Or.inl ⟨by rfl,?_⟩) hHeld ?_ ?_;rotate_left;(rintro w' ⟨s0,s1,s2,s3,s4,s5,s6,s7,s8,s9,s10,s11,s12,s13,s14,s15,s16,s17⟩;go_simp;with_reducible rfl);rotate_left;(exact z13a)
             refine pure_ (i:=26) (N:=some 134) (v:=?_) (a':=?_) b90q rfl rfl (any_of HT_.out (by kernel_rfl)) (fun _ _ _ h=>h) (Or.inl ⟨by rfl,?_⟩) ?_ ?_;rotate_left;(intro w';go_simp;with_reducible rfl);rotate_left;(exact z13a)
             refine pure_ (i:=27) (N:=some 135) (v:=?_) (a':=?_) b91q rfl rfl (any_of HT_.out (by kernel_rfl)) (fun _ _ _ h=>h) (Or.inl ⟨by rfl,?_⟩) ?_ ?_;rotate_left;(intro w';go_simp;with_reducible rfl);rotate_left;(exact z13a)
             refine pure_ (i:=28) (N:=some 136) (v:=?_) (a':=?_) b92q rfl rfl (any_of HT_.out (by kernel_rfl)) (fun _ _ _ h=>h) (Or.inl ⟨by rfl,?_⟩) ?_ ?_;rotate_left;(intro w';go_simp;with_reducible rfl);rotate_left;(exact z13a)
             refine done_ (done_of HT_.out (by kernel_rfl)) ?_
             try go_wp2
             go_ret
             exact ⟨by first|rfl|(simp [errW_none,errW_some] <;> rfl)|(simp only [← gb];first|rfl|(simp [errW_none,errW_some] <;> rfl))|(simp [*,errW_none,errW_some] <;> rfl),by repeat (first|(with_reducible first|exact HB.out|apply below_alloc|apply pw_below_drewN|apply below_drew1|refine below_set ?_ vm.out)|exact HB.out)⟩
            ·rw [if_neg qbf] at H
             have qsx : decide (((rd_T113 qg qk).f3) ≤ ((rd_T113 qg (wy)).f3)) = false:=decide_eq_false qbf
             clear qbf
             have H':=Aside0.mk H
             clear H
             have qvm : wr.cell? ⟨qb,0,none⟩ = some (.int .i64 qp):=(blk_cell qa.out 0).trans rfl
             have qvl : wr.cell? ⟨qb,1,none⟩ = some (.int .i64 ql):=(blk_cell qa.out 1).trans rfl
             have qvk : wr.cell? ⟨qb,2,none⟩ = some (.slice wd qf.length qv):=(blk_cell qa.out 2).trans rfl
             have qvj : wr.cell? ⟨qb,3,none⟩ = some (.slice wg qc.length qu):=(blk_cell qa.out 3).trans rfl
             have qvi : wr.cell? ⟨qb,4,none⟩ = some (.slice qx qg.length qt):=(blk_cell qa.out 4).trans rfl
             have qvh : wr.cell? ⟨qb,5,none⟩ = some (.slice qz qh.length qr):=(blk_cell qa.out 5).trans rfl
             have quc:=blk_frozen qa.out 0
             have qub:=blk_frozen qa.out 1
             have qua:=blk_frozen qa.out 2
             have qtz:=blk_frozen qa.out 3
             have qty:=blk_frozen qa.out 4
             have qtx:=blk_frozen qa.out 5
             try go_wp2
             have n0_:=Aside0.mk (blk_drew qa.out)
             have n1_:=Aside0.mk (below_drew1 HB.out)
             clear qa
             clear HB
             have qa:=n0_
             have HB:=n1_
             clear n0_ n1_
             have jv : 0 ≤ (qk : Int):=of_decide_eq_true (by first|(with_reducible assumption)|assumption)
             have ju : qk < (qg.length : Int):=of_decide_eq_true (by first|(with_reducible assumption)|assumption)
             obtain ⟨qq,pc,wl,wk,wj,wi⟩:=at_T113 jd.out qk jv ju
             have vn:=wi
             have vo:=wj
             have vp:=wk
             have vq:=wl
             cases pc
             replace wl:=(HB.out.cell (World.block_lt_of_cell? w _ wl)).trans wl
             replace wk:=(HB.out.cell (World.block_lt_of_cell? w _ wk)).trans wk
             replace wj:=(HB.out.cell (World.block_lt_of_cell? w _ wj)).trans wj
             replace wi:=(HB.out.cell (World.block_lt_of_cell? w _ wi)).trans wi
             replace jv:=eq_true jv
             replace ju:=eq_true ju
             have pa : 0 ≤ ((wy) : Int):=of_decide_eq_true (by first|(with_reducible assumption)|assumption)
             have gw : (wy) < (qg.length : Int):=of_decide_eq_true (by first|(with_reducible assumption)|assumption)
             obtain ⟨qfx,qsu,uy,ux,uw,uv⟩:=at_T113 jd.out (wy) pa gw
             have jj:=uv
             have jk:=uw
             have jl:=ux
             have jm:=uy
             obtain rfl : qq = qfx:=(by injection qsu)
             replace uy:=(HB.out.cell (World.block_lt_of_cell? w _ uy)).trans uy
             replace ux:=(HB.out.cell (World.block_lt_of_cell? w _ ux)).trans ux
             replace uw:=(HB.out.cell (World.block_lt_of_cell? w _ uw)).trans uw
             replace uv:=(HB.out.cell (World.block_lt_of_cell? w _ uv)).trans uv
             replace pa:=eq_true pa
             replace gw:=eq_true gw
             have gz : 0 ≤ (qk : Int):=of_decide_eq_true (by first|(with_reducible assumption)|assumption)
             have gv : qk < (qg.length : Int):=of_decide_eq_true (by first|(with_reducible assumption)|assumption)
             obtain ⟨qfw,qst,uu,ut,us,ur⟩:=at_T113 jd.out qk gz gv
             have jf:=ur
             have jg:=us
             have jh:=ut
             have ji:=uu
             obtain rfl : qq = qfw:=(by injection qst)
             replace uu:=(HB.out.cell (World.block_lt_of_cell? w _ uu)).trans uu
             replace ut:=(HB.out.cell (World.block_lt_of_cell? w _ ut)).trans ut
             replace us:=(HB.out.cell (World.block_lt_of_cell? w _ us)).trans us
             replace ur:=(HB.out.cell (World.block_lt_of_cell? w _ ur)).trans ur
             replace gz:=eq_true gz
             replace gv:=eq_true gv
             refine start_ (n:=29) (S:=fun w' => w'.cell? ⟨qb,0,none⟩ = some (.int .i64 qp) ∧ w'.cell? ⟨qb,1,none⟩ = some (.int .i64 ql) ∧ w'.cell? ⟨qb,2,none⟩ = some (.slice wd qf.length qv) ∧ w'.cell? ⟨qb,3,none⟩ = some (.slice wg qc.length qu) ∧ w'.cell? ⟨qb,4,none⟩ = some (.slice (some qq) qg.length qt) ∧ w'.cell? ⟨qb,5,none⟩ = some (.slice qz qh.length qr) ∧ w'.cell? (qq.add ((qk).toNat * 4)) = some (.int .i64 ((rd_T113 qg qk).f0)) ∧ w'.cell? ⟨(qq.add ((qk).toNat * 4)).block,(qq.add ((qk).toNat * 4)).off + 1,none⟩ = some (.int .i64 ((rd_T113 qg qk).f1)) ∧ w'.cell? ⟨(qq.add ((qk).toNat * 4)).block,(qq.add ((qk).toNat * 4)).off + 2,none⟩ = some (.int .i64 ((rd_T113 qg qk).f2)) ∧ w'.cell? ⟨(qq.add ((qk).toNat * 4)).block,(qq.add ((qk).toNat * 4)).off + 3,none⟩ = some (.int .i64 ((rd_T113 qg qk).f3)) ∧ w'.cell? (qq.add (((wy)).toNat * 4)) = some (.int .i64 ((rd_T113 qg (wy)).f0)) ∧ w'.cell? ⟨(qq.add (((wy)).toNat * 4)).block,(qq.add (((wy)).toNat * 4)).off + 1,none⟩ = some (.int .i64 ((rd_T113 qg (wy)).f1)) ∧ w'.cell? ⟨(qq.add (((wy)).toNat * 4)).block,(qq.add (((wy)).toNat * 4)).off + 2,none⟩ = some (.int .i64 ((rd_T113 qg (wy)).f2)) ∧ w'.cell? ⟨(qq.add (((wy)).toNat * 4)).block,(qq.add (((wy)).toNat * 4)).off + 3,none⟩ = some (.int .i64 ((rd_T113 qg (wy)).f3)) ∧ w'.cell? (qq.add ((qk).toNat * 4)) = some (.int .i64 ((rd_T113 qg qk).f0)) ∧ w'.cell? ⟨(qq.add ((qk).toNat * 4)).block,(qq.add ((qk).toNat * 4)).off + 1,none⟩ = some (.int .i64 ((rd_T113 qg qk).f1)) ∧ w'.cell? ⟨(qq.add ((qk).toNat * 4)).block,(qq.add ((qk).toNat * 4)).off + 2,none⟩ = some (.int .i64 ((rd_T113 qg qk).f2)) ∧ w'.cell? ⟨(qq.add ((qk).toNat * 4)).block,(qq.add ((qk).toNat * 4)).off + 3,none⟩ = some (.int .i64 ((rd_T113 qg qk).f3))) (ds:=[]) b63q (by kernel_rfl) rfl rfl ⟨(blk_cell qa.out 0).trans rfl,(blk_cell qa.out 1).trans rfl,(blk_cell qa.out 2).trans rfl,(blk_cell qa.out 3).trans rfl,(blk_cell qa.out 4).trans rfl,(blk_cell qa.out 5).trans rfl,((HB.out.cell (World.block_lt_of_cell? w _ vq)).trans vq),((HB.out.cell (World.block_lt_of_cell? w _ vp)).trans vp),((HB.out.cell (World.block_lt_of_cell? w _ vo)).trans vo),((HB.out.cell (World.block_lt_of_cell? w _ vn)).trans vn),((HB.out.cell (World.block_lt_of_cell? w _ jm)).trans jm),((HB.out.cell (World.block_lt_of_cell? w _ jl)).trans jl),((HB.out.cell (World.block_lt_of_cell? w _ jk)).trans jk),((HB.out.cell (World.block_lt_of_cell? w _ jj)).trans jj),((HB.out.cell (World.block_lt_of_cell? w _ ji)).trans ji),((HB.out.cell (World.block_lt_of_cell? w _ jh)).trans jh),((HB.out.cell (World.block_lt_of_cell? w _ jg)).trans jg),((HB.out.cell (World.block_lt_of_cell? w _ jf)).trans jf)⟩ (fun hHeld=>?_);refine with_tabW spec_ClientOk.tab18 spec_ClientOk.bits18 (fun HT_ HW_=>?_)
             generalize wr.drew = wac at qa HB wl wk wj wi uy ux uw uv uu ut us ur hHeld ⊢
             refine pure_ (i:=0) (N:=some 108) (v:=?_) (a':=?_) b64q rfl rfl (any_of HT_.out (by kernel_rfl)) (fun _ _ _ h=>h) (Or.inl ⟨by rfl,?_⟩) ?_ ?_;rotate_left;(intro w';go_simp;with_reducible rfl);rotate_left;(exact z13a)
             refine pure_ (i:=2) (N:=some 110) (v:=?_) (a':=?_) b65q rfl rfl (any_of HT_.out (by kernel_rfl)) (fun _ _ _ h=>h) (Or.inl ⟨by rfl,?_⟩) ?_ ?_;rotate_left;(intro w';go_simp;with_reducible rfl);rotate_left;(exact z13a)
             refine pure_ (i:=5) (N:=some 113) (v:=?_) (a':=?_) b66q rfl rfl (any_of HT_.out (by kernel_rfl)) (fun _ _ _ h=>h) (Or.inl ⟨by rfl,?_⟩) ?_ ?_;rotate_left;(intro w';go_simp;with_reducible rfl);rotate_left;(exact z13a)
             refine take_ (i:=1) (N:=some 109) (v:=?_) (a':=?_) b67q rfl rfl (take_ofW HT_.out HW_.out (by kernel_rfl)) (fun _ _ _ h=>h) (Or.inl ⟨by rfl,?_⟩) hHeld ?_ ?_;rotate_left;(rintro w' ⟨s0,s1,s2,s3,s4,s5,s6,s7,s8,s9,s10,s11,s12,s13,s14,s15,s16,s17⟩;go_simp;with_reducible rfl);rotate_left;(exact z13a)
             refine pure_ (i:=3) (N:=some 111) (v:=?_) (a':=?_) b68q rfl rfl (any_of HT_.out (by kernel_rfl)) (fun _ _ _ h=>h) (Or.inl ⟨by rfl,?_⟩) ?_ ?_;rotate_left;(intro w';go_simp;with_reducible rfl);rotate_left;(exact z13a)
             refine take_ (i:=4) (N:=some 112) (v:=?_) (a':=?_) b69q rfl rfl (take_ofW HT_.out HW_.out (by kernel_rfl)) (fun _ _ _ h=>h) (Or.inl ⟨by rfl,?_⟩) hHeld ?_ ?_;rotate_left;(rintro w' ⟨s0,s1,s2,s3,s4,s5,s6,s7,s8,s9,s10,s11,s12,s13,s14,s15,s16,s17⟩;go_simp;with_reducible rfl);rotate_left;(exact z13a)
             refine take_ (i:=6) (N:=some 114) (v:=?_) (a':=?_) b70q rfl rfl (take_ofW HT_.out HW_.out (by kernel_rfl)) (fun _ _ _ h=>h) (Or.inl ⟨by rfl,?_⟩) hHeld ?_ ?_;rotate_left;(rintro w' ⟨s0,s1,s2,s3,s4,s5,s6,s7,s8,s9,s10,s11,s12,s13,s14,s15,s16,s17⟩;go_simp;with_reducible rfl);rotate_left;(exact z13a)
             refine one_ (i:=7) (N:=some 115) b71q rfl rfl (one_of HT_.out (by kernel_rfl)) (by decide) (fun K hK=>?_)
             refine goes_ Try.func116 (by kernel_rfl) rfl #[.agg #[.int .i64 ((rd_T113 qg qk).f0),.int .i64 ((rd_T113 qg qk).f1),.int .i64 ((rd_T113 qg qk).f2),.int .i64 ((rd_T113 qg qk).f3)],.int .i64 ql] (by rfl) rfl rfl z13x9 ?_
             with_reducible refine (spec_l12Call.calls ((rd_T113 qg qk).f0) ((rd_T113 qg qk).f1) ((rd_T113 qg qk).f2) ((rd_T113 qg qk).f3) ql true _ qgb.out).mono ?_
             rintro e wab ⟨rfl,hb⟩
             refine ⟨_,rfl,?_⟩
             have n0_:=Aside0.mk (blk_below (g:=qb) (o:=.cells #[.int .i64 qp,.int .i64 ql,.slice wd qf.length qv,.slice wg qc.length qu,.slice (some qq) qg.length qt,.slice qz qh.length qr] 28 (0,0)) z13x11 hb)
             have n1_:=Aside0.mk (below_step z13x8 hb)
             clear qa
             clear HB
             have qa:=n0_
             have HB:=n1_
             clear n0_ n1_
             (try clear hb)
             (try clear hb2)
             (try clear hk)
             (try clear hi)
             refine hK.out _ _ ⟨(blk_cell qa.out 0).trans rfl,(blk_cell qa.out 1).trans rfl,(blk_cell qa.out 2).trans rfl,(blk_cell qa.out 3).trans rfl,(blk_cell qa.out 4).trans rfl,(blk_cell qa.out 5).trans rfl,((HB.out.cell (World.block_lt_of_cell? w _ vq)).trans vq),((HB.out.cell (World.block_lt_of_cell? w _ vp)).trans vp),((HB.out.cell (World.block_lt_of_cell? w _ vo)).trans vo),((HB.out.cell (World.block_lt_of_cell? w _ vn)).trans vn),((HB.out.cell (World.block_lt_of_cell? w _ jm)).trans jm),((HB.out.cell (World.block_lt_of_cell? w _ jl)).trans jl),((HB.out.cell (World.block_lt_of_cell? w _ jk)).trans jk),((HB.out.cell (World.block_lt_of_cell? w _ jj)).trans jj),((HB.out.cell (World.block_lt_of_cell? w _ ji)).trans ji),((HB.out.cell (World.block_lt_of_cell? w _ jh)).trans jh),((HB.out.cell (World.block_lt_of_cell? w _ jg)).trans jg),((HB.out.cell (World.block_lt_of_cell? w _ jf)).trans jf)⟩ (fun hHeld=>?_)
             clear hK K
             refine norm_ (a':=?_) ?_ ?_
             rotate_left
             ·show Act.put _ (some 115) _ = _
              simp only [Act.put,List.setIfInBounds_toArray,List.set_cons_zero,List.set_cons_succ,i64_w,i32_w]
              rfl
             refine pure_ (i:=8) (N:=some 116) (v:=?_) (a':=?_) b72q rfl rfl (any_of HT_.out (by kernel_rfl)) (fun _ _ _ h=>h) (Or.inl ⟨by rfl,?_⟩) ?_ ?_;rotate_left;(intro w';go_simp;with_reducible rfl);rotate_left;(exact z13a)
             refine pure_ (i:=9) (N:=some 117) (v:=?_) (a':=?_) b73q rfl rfl (any_of HT_.out (by kernel_rfl)) (fun _ _ _ h=>h) (Or.inl ⟨by rfl,?_⟩) ?_ ?_;rotate_left;(intro w';go_simp;with_reducible rfl);rotate_left;(exact z13a)
             refine pure_ (i:=10) (N:=some 118) (v:=?_) (a':=?_) b74q rfl rfl (any_of HT_.out (by kernel_rfl)) (fun _ _ _ h=>h) (Or.inl ⟨by rfl,?_⟩) ?_ ?_;rotate_left;(intro w';go_simp;with_reducible rfl);rotate_left;(exact z13a)
             refine pure_ (i:=11) (N:=some 119) (v:=?_) (a':=?_) b75q rfl rfl (any_of HT_.out (by kernel_rfl)) (fun _ _ _ h=>h) (Or.inl ⟨by rfl,?_⟩) ?_ ?_;rotate_left;(intro w';go_simp;with_reducible rfl);rotate_left;(exact z13a)
             refine pure_ (i:=12) (N:=some 120) (v:=?_) (a':=?_) b76q rfl rfl (any_of HT_.out (by kernel_rfl)) (fun _ _ _ h=>h) (Or.inl ⟨by rfl,?_⟩) ?_ ?_;rotate_left;(intro w';go_simp;with_reducible rfl);rotate_left;(exact z13a)
             refine pure_ (i:=13) (N:=some 121) (v:=?_) (a':=?_) b77q rfl rfl (any_of HT_.out (by kernel_rfl)) (fun _ _ _ h=>h) (Or.inl ⟨by rfl,?_⟩) ?_ ?_;rotate_left;(intro w';go_simp;with_reducible rfl);rotate_left;(exact z13a)
             refine pure_ (i:=15) (N:=some 123) (v:=?_) (a':=?_) b93q rfl rfl (any_of HT_.out (by kernel_rfl)) (fun _ _ _ h=>h) (Or.inl ⟨by rfl,?_⟩) ?_ ?_;rotate_left;(intro w';go_simp;with_reducible rfl);rotate_left;(exact z13a)
             refine pure_ (i:=16) (N:=some 124) (v:=?_) (a':=?_) b94q rfl rfl (any_of HT_.out (by kernel_rfl)) (fun _ _ _ h=>h) (Or.inl ⟨by rfl,?_⟩) ?_ ?_;rotate_left;(intro w';go_simp;with_reducible rfl);rotate_left;(exact z13a)
             refine pure_ (i:=20) (N:=some 128) (v:=?_) (a':=?_) b95q rfl rfl (any_of HT_.out (by kernel_rfl)) (fun _ _ _ h=>h) (Or.inl ⟨by rfl,?_⟩) ?_ ?_;rotate_left;(intro w';go_simp;with_reducible rfl);rotate_left;(exact z13a)
             refine pure_ (i:=22) (N:=some 130) (v:=?_) (a':=?_) b96q rfl rfl (any_of HT_.out (by kernel_rfl)) (fun _ _ _ h=>h) (Or.inl ⟨by rfl,?_⟩) ?_ ?_;rotate_left;(intro w';go_simp;with_reducible rfl);rotate_left;(exact z13a)
             refine take_ (i:=14) (N:=some 122) (v:=?_) (a':=?_) b97q rfl rfl (take_ofW HT_.out HW_.out (by kernel_rfl)) (fun _ _ _ h=>h) (Or.inl ⟨by rfl,?_⟩) hHeld ?_ ?_;rotate_left;(rintro w' ⟨s0,s1,s2,s3,s4,s5,s6,s7,s8,s9,s10,s11,s12,s13,s14,s15,s16,s17⟩;go_simp;with_reducible rfl);rotate_left;(exact z13a)
             refine pure_ (i:=17) (N:=some 125) (v:=?_) (a':=?_) b98q rfl rfl (any_of HT_.out (by kernel_rfl)) (fun _ _ _ h=>h) (Or.inl ⟨by rfl,?_⟩) ?_ ?_;rotate_left;(intro w';go_simp;with_reducible rfl);rotate_left;(exact z13a)
             refine pure_ (i:=18) (N:=some 126) (v:=?_) (a':=?_) b99q rfl rfl (any_of HT_.out (by kernel_rfl)) (fun _ _ _ h=>h) (Or.inl ⟨by rfl,?_⟩) ?_ ?_;rotate_left;(intro w';go_simp;with_reducible rfl);rotate_left;(exact z13a)
             refine take_ (i:=19) (N:=some 127) (v:=?_) (a':=?_) b100q rfl rfl (take_ofW HT_.out HW_.out (by kernel_rfl)) (fun _ _ _ h=>h) (Or.inl ⟨by rfl,?_⟩) hHeld ?_ ?_;rotate_left;(rintro w' ⟨s0,s1,s2,s3,s4,s5,s6,s7,s8,s9,s10,s11,s12,s13,s14,s15,s16,s17⟩;go_simp;with_reducible rfl);rotate_left;(exact z13a)
             refine take_ (i:=21) (N:=some 129) (v:=?_) (a':=?_) b86q rfl rfl (take_ofW HT_.out HW_.out (by kernel_rfl)) (fun _ _ _ h=>h) (Or.inl ⟨by rfl,?_⟩) hHeld ?_ ?_;rotate_left;(rintro w' ⟨s0,s1,s2,s3,s4,s5,s6,s7,s8,s9,s10,s11,s12,s13,s14,s15,s16,s17⟩;go_simp;with_reducible rfl);rotate_left;(exact z13a)
             refine pure_ (i:=23) (N:=some 131) (v:=?_) (a':=?_) b87q rfl rfl (any_of HT_.out (by kernel_rfl)) (fun _ _ _ h=>h) (Or.inl ⟨by rfl,?_⟩) ?_ ?_;rotate_left;(intro w';go_simp;with_reducible rfl);rotate_left;(exact z13a)
             refine pure_ (i:=24) (N:=some 132) (v:=?_) (a':=?_) b88q rfl rfl (any_of HT_.out (by kernel_rfl)) (fun _ _ _ h=>h) (Or.inl ⟨by rfl,?_⟩) ?_ ?_;rotate_left;(intro w';go_simp;with_reducible rfl);rotate_left;(exact z13a)
             refine take_ (i:=25) (N:=some 133) (v:=?_) (a':=?_) b89q rfl rfl (take_ofW HT_.out HW_.out (by kernel_rfl)) (fun _ _ _ h=>h) (Or.inl ⟨by rfl,?_⟩) hHeld ?_ ?_;rotate_left;(rintro w' ⟨s0,s1,s2,s3,s4,s5,s6,s7,s8,s9,s10,s11,s12,s13,s14,s15,s16,s17⟩;go_simp;with_reducible rfl);rotate_left;(exact z13a)
             refine pure_ (i:=26) (N:=some 134) (v:=?_) (a':=?_) b90q rfl rfl (any_of HT_.out (by kernel_rfl)) (fun _ _ _ h=>h) (Or.inl ⟨by rfl,?_⟩) ?_ ?_;rotate_left;(intro w';go_simp;with_reducible rfl);rotate_left;(exact z13a)
             refine pure_ (i:=27) (N:=some 135) (v:=?_) (a':=?_) b91q rfl rfl (any_of HT_.out (by kernel_rfl)) (fun _ _ _ h=>h) (Or.inl ⟨by rfl,?_⟩) ?_ ?_;rotate_left;(intro w';go_simp;with_reducible rfl);rotate_left;(exact z13a)
             refine pure_ (i:=28) (N:=some 136) (v:=?_) (a':=?_) b92q rfl rfl (any_of HT_.out (by kernel_rfl)) (fun _ _ _ h=>h) (Or.inl ⟨by rfl,?_⟩) ?_ ?_;rotate_left;(intro w';go_simp;with_reducible rfl);rotate_left;(exact z13a)
             refine done_ (done_of HT_.out (by kernel_rfl)) ?_
             try go_wp2
             go_roundg k4
             case measure=>have:=HJ1.out;have:=HK2.out;have:=HK3.out;have:=HK4.out;omega
             case rel=>exact ⟨(wrap64 (qk + 1)),(by first|rfl|(simp;done)|(simp [*];done)),H',⟨by have:=HJ1.out;have:=HK2.out;have:=HK3.out;have:=HK4.out;omega⟩,⟨by (with_reducible repeat (first|refine blk_drewN ?_ _|refine blk_drew ?_|refine blk_alloc ?_ _));exact qa.out⟩,⟨by repeat (first|(with_reducible first|exact HB.out|apply below_alloc|apply pw_below_drewN|apply below_drew1|refine below_set ?_ vm.out)|exact HB.out)⟩⟩

end Go.Proofs.Ytbipicjijbnbbaa.Hp
