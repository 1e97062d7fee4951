-- hp.py
import Derived.Test.YtgekmdfcbcacdaaHx0
import Derived.Test.YtgekmdfcbcacdaaHx5
import Derived.Test.YtgekmdfcbcacdaaHx6
import Derived.Test.YtgekmdfcbcacdaaHx15
import Derived.Test.YtgekmdfcbcacdaaHx17
import Derived.Test.YtgekmdfcbcacdaaHx46
namespace Go.Proofs.Ytgekmdfcbcacdaa.Hp
open Go.RowKit Go.Proofs.YtgekmdfcbcacdaaW.PrintWords Go.Proofs.YtgekmdfcbcacdaaW.PrintLast Go.Proofs.YtgekmdfcbcacdaaW.PrintMore
attribute [local go_sem] max2_int min2_int max_two min_two max_three min_three max_four min_four   -- for this text's walks alone
set_option linter.unusedVariables false
set_option linter.unusedSimpArgs false
theorem z47a {P : Prop} (h : P:=by simp only [Act.put,List.setIfInBounds_toArray,List.set_cons_zero,List.set_cons_succ,i64_w,i32_w];rfl) : P:=h
-- squeezed by wip/tools/squeeze.py
theorem z47x23 {P : Prop} (h : P:=by (with_reducible repeat (first|apply Kd.R_alloc|apply Kd.R_drewN|apply Kd.R_drew));exact HO_7.out) : P:=h
theorem z47x22 {P : Prop} (h : P:=by (with_reducible repeat (first|refine blk_drewN ?_ _|refine blk_drew ?_|refine blk_alloc ?_ _));exact qd.out) : P:=h
theorem z47x21 {P : Prop} (h : P:=by (with_reducible repeat (first|refine blk_drewN ?_ _|refine blk_drew ?_|refine blk_alloc ?_ _));exact qg.out) : P:=h
theorem z47x20 {P : Prop} (h : P:=by repeat (first|(with_reducible first|exact HB.out|apply below_alloc|apply pw_below_drewN|apply below_drew1)|exact HB.out)) : P:=h
theorem z47x19 {P : Prop} (h : P:=by (try simp only [List.map_toArray,List.map_cons,List.map_nil]);first|done|rfl|(simp only [List.length_drop,List.length_take];rfl)) : P:=h
theorem z47x18 {P : Prop} (h : P:=by repeat (first|(with_reducible first|exact qc.out|apply IsS158.alloc|apply IsS158.drewN|apply IsS158.drew|apply IsS158.set_1|refine IsS158.far ?_ qf.out _)|exact qc.out)) : P:=h
theorem z47x17 {P : Prop} (h : P:=by repeat (first|(with_reducible first|exact HB.out|apply below_alloc|apply pw_below_drewN|apply below_drew1|refine below_set ?_ (IsS158.ge qc.out)|refine below_set ?_ qq.out)|exact HB.out)) : P:=h
theorem z47x16 {P : Prop} (h : P:=by repeat (first|(with_reducible first|exact qc.out|apply IsS158.alloc|apply IsS158.drewN|apply IsS158.drew|apply IsS158.set_1|refine IsS158.far ?_ qf.out _|refine IsS158.far ?_ qk.out _)|exact qc.out)) : P:=h
theorem z47x15 {P : Prop} (h : P:=by rw [hg];exact (below_size (by repeat (first|(with_reducible first|exact HB.out|apply below_alloc|apply pw_below_drewN|apply below_drew1|refine below_set ?_ (IsS158.ge qc.out)|refine below_set ?_ qq.out)|exact HB.out)))) : P:=h
theorem z47x14 {P : Prop} (h : P:=by repeat (first|(with_reducible first|exact HB.out|apply below_alloc|apply pw_below_drewN|apply below_drew1|refine below_set ?_ (IsS158.ge qc.out)|refine below_set ?_ qq.out|refine below_set ?_ we.out)|exact HB.out)) : P:=h
theorem z47x13 {P : Prop} (h : P:=by repeat (first|(with_reducible first|exact HB.out|apply below_alloc|apply pw_below_drewN|apply below_drew1|refine below_set ?_ (IsS158.ge qc.out)|refine below_set ?_ qq.out|refine below_set ?_ ju.out)|exact HB.out)) : P:=h
theorem z47x12 {P : Prop} (h : P:=by rw [hg];exact Nat.ne_of_lt (IsS158.lt (show IsS158 w _ qm qj wv from by repeat (first|(with_reducible first|exact qc.out|apply IsS158.alloc|apply IsS158.drewN|apply IsS158.drew|apply IsS158.set_1|refine IsS158.far ?_ qf.out _)|exact qc.out)))) : P:=h
theorem z47x11 {P : Prop} (h : P:=by rw [hg];exact Nat.ne_of_lt (IsS158.lt (show IsS158 w _ qm qj uf from by repeat (first|(with_reducible first|exact qc.out|apply IsS158.alloc|apply IsS158.drewN|apply IsS158.drew|apply IsS158.set_1|refine IsS158.far ?_ qf.out _)|exact qc.out)))) : P:=h
theorem z47x10 {P : Prop} (h : P:=by rw [hg];exact Nat.ne_of_gt (IsS158.lt (show IsS158 w _ qm qj wv from by repeat (first|(with_reducible first|exact qc.out|apply IsS158.alloc|apply IsS158.drewN|apply IsS158.drew|apply IsS158.set_1|refine IsS158.far ?_ qf.out _)|exact qc.out)))) : P:=h
theorem z47x9 {P : Prop} (h : P:=by rw [hg];exact Nat.ne_of_gt (IsS158.lt (show IsS158 w _ qm qj uf from by repeat (first|(with_reducible first|exact qc.out|apply IsS158.alloc|apply IsS158.drewN|apply IsS158.drew|apply IsS158.set_1|refine IsS158.far ?_ qf.out _)|exact qc.out)))) : P:=h
theorem z47x8 {P : Prop} (h : P:=by rw [hg];exact Nat.ne_of_lt (blk_lt (g:=qb) (o:=.cells #[.int .i64 0,.int .i64 0,.int .i64 0,.int .i64 0,.int .i64 0,.int .i64 0,.int .i64 0] 41 (0,0)) (by (with_reducible repeat (first|refine blk_drewN ?_ _|refine blk_drew ?_|refine blk_alloc ?_ _));exact qg.out))) : P:=h
theorem z47x7 {P : Prop} (h : P:=by rw [hg];exact Nat.ne_of_gt (blk_lt (g:=qb) (o:=.cells #[.int .i64 0,.int .i64 0,.int .i64 0,.int .i64 0,.int .i64 0,.int .i64 0,.int .i64 0] 41 (0,0)) (by (with_reducible repeat (first|refine blk_drewN ?_ _|refine blk_drew ?_|refine blk_alloc ?_ _));exact qg.out))) : P:=h
theorem z47x6 {P : Prop} (h : P:=by (with_reducible repeat (first|apply Kd.R_alloc|apply Kd.R_drewN|apply Kd.R_drew));exact (Kd.R_mono (Kd.R_far (p:=⟨qe,6,none⟩) (Kd.R_far (p:=⟨qe,5,none⟩) (Kd.R_far (p:=⟨qe,4,none⟩) (Kd.R_far (p:=⟨qe,3,none⟩) (Kd.R_far (p:=⟨qe,2,none⟩) (Kd.R_far (p:=⟨qe,1,none⟩) (Kd.R_far (p:=⟨qe,0,none⟩) (Kd.R_mono HO_7.out (fun k_ hk=>(⟨hk,hk.2⟩ : _ ∧ k_ ≠ qe))) (fun _ hk=>hk.2) (.int .i64 qu)) (fun _ hk=>hk.2) (.int .i64 3)) (fun _ hk=>hk.2) (.int .i64 (wrap64 (1 + qv)))) (fun _ hk=>hk.2) (.int .i64 wc)) (fun _ hk=>hk.2) (.int .i64 (wrap64 (1 + qz)))) (fun _ hk=>hk.2) (.int .i64 0)) (fun _ hk=>hk.2) (.int .i64 0)) (fun _ h_=>h_.1))) : P:=h
theorem z47x5 {P : Prop} (h : P:=by (with_reducible repeat (first|apply Kd.R_alloc|apply Kd.R_drewN|apply Kd.R_drew));exact (Kd.R_mono (Kd.R_far (p:=⟨qw,6,none⟩) (Kd.R_far (p:=⟨qw,5,none⟩) (Kd.R_far (p:=⟨qw,4,none⟩) (Kd.R_far (p:=⟨qw,3,none⟩) (Kd.R_far (p:=⟨qw,2,none⟩) (Kd.R_far (p:=⟨qw,1,none⟩) (Kd.R_far (p:=⟨qw,0,none⟩) (Kd.R_mono HO_7.out (fun k_ hk=>(⟨hk,hk.2⟩ : _ ∧ k_ ≠ qw))) (fun _ hk=>hk.2) (.int .i64 wk)) (fun _ hk=>hk.2) (.int .i64 3)) (fun _ hk=>hk.2) (.int .i64 (wrap64 (1 + wl)))) (fun _ hk=>hk.2) (.int .i64 wu)) (fun _ hk=>hk.2) (.int .i64 (wrap64 (1 + wy)))) (fun _ hk=>hk.2) (.int .i64 0)) (fun _ hk=>hk.2) (.int .i64 0)) (fun _ h_=>h_.1))) : P:=h
theorem z47x4 {P : Prop} (h : P:=by (with_reducible repeat (first|refine blk_drewN ?_ _|refine blk_drew ?_|refine blk_alloc ?_ _));refine blk_far ?_ qi.out _;(with_reducible repeat (first|refine blk_drewN ?_ _|refine blk_drew ?_|refine blk_alloc ?_ _));refine blk_far ?_ qi.out _;(with_reducible repeat (first|refine blk_drewN ?_ _|refine blk_drew ?_|refine blk_alloc ?_ _));refine blk_far ?_ qi.out _;(with_reducible repeat (first|refine blk_drewN ?_ _|refine blk_drew ?_|refine blk_alloc ?_ _));refine blk_far ?_ qi.out _;(with_reducible repeat (first|refine blk_drewN ?_ _|refine blk_drew ?_|refine blk_alloc ?_ _));refine blk_far ?_ qi.out _;(with_reducible repeat (first|refine blk_drewN ?_ _|refine blk_drew ?_|refine blk_alloc ?_ _));refine blk_far ?_ qi.out _;(with_reducible repeat (first|refine blk_drewN ?_ _|refine blk_drew ?_|refine blk_alloc ?_ _));refine blk_far ?_ qi.out _;(with_reducible repeat (first|refine blk_drewN ?_ _|refine blk_drew ?_|refine blk_alloc ?_ _));exact qg.out) : P:=h
theorem z47x3 {P : Prop} (h : P:=by (with_reducible repeat (first|refine blk_drewN ?_ _|refine blk_drew ?_|refine blk_alloc ?_ _));refine blk_far ?_ wh.out _;(with_reducible repeat (first|refine blk_drewN ?_ _|refine blk_drew ?_|refine blk_alloc ?_ _));refine blk_far ?_ wh.out _;(with_reducible repeat (first|refine blk_drewN ?_ _|refine blk_drew ?_|refine blk_alloc ?_ _));refine blk_far ?_ wh.out _;(with_reducible repeat (first|refine blk_drewN ?_ _|refine blk_drew ?_|refine blk_alloc ?_ _));refine blk_far ?_ wh.out _;(with_reducible repeat (first|refine blk_drewN ?_ _|refine blk_drew ?_|refine blk_alloc ?_ _));refine blk_far ?_ wh.out _;(with_reducible repeat (first|refine blk_drewN ?_ _|refine blk_drew ?_|refine blk_alloc ?_ _));refine blk_far ?_ wh.out _;(with_reducible repeat (first|refine blk_drewN ?_ _|refine blk_drew ?_|refine blk_alloc ?_ _));refine blk_far ?_ wh.out _;(with_reducible repeat (first|refine blk_drewN ?_ _|refine blk_drew ?_|refine blk_alloc ?_ _));exact qg.out) : P:=h
theorem z47x2 {P : Prop} (h : P:=by (with_reducible repeat (first|refine blk_drewN ?_ _|refine blk_drew ?_|refine blk_alloc ?_ _));refine blk_put (cs:=#[.int .i64 qu,.int .i64 3,.int .i64 (wrap64 (1 + qv)),.int .i64 wc,.int .i64 (wrap64 (1 + qz)),.int .i64 0,.int .i64 0]) ?_ 6 _ rfl;(with_reducible repeat (first|refine blk_drewN ?_ _|refine blk_drew ?_|refine blk_alloc ?_ _));refine blk_put (cs:=#[.int .i64 qu,.int .i64 3,.int .i64 (wrap64 (1 + qv)),.int .i64 wc,.int .i64 (wrap64 (1 + qz)),.int .i64 0,.int .i64 0]) ?_ 5 _ rfl;(with_reducible repeat (first|refine blk_drewN ?_ _|refine blk_drew ?_|refine blk_alloc ?_ _));refine blk_put (cs:=#[.int .i64 qu,.int .i64 3,.int .i64 (wrap64 (1 + qv)),.int .i64 wc,.int .i64 0,.int .i64 0,.int .i64 0]) ?_ 4 _ rfl;(with_reducible repeat (first|refine blk_drewN ?_ _|refine blk_drew ?_|refine blk_alloc ?_ _));refine blk_put (cs:=#[.int .i64 qu,.int .i64 3,.int .i64 (wrap64 (1 + qv)),.int .i64 0,.int .i64 0,.int .i64 0,.int .i64 0]) ?_ 3 _ rfl;(with_reducible repeat (first|refine blk_drewN ?_ _|refine blk_drew ?_|refine blk_alloc ?_ _));refine blk_put (cs:=#[.int .i64 qu,.int .i64 3,.int .i64 0,.int .i64 0,.int .i64 0,.int .i64 0,.int .i64 0]) ?_ 2 _ rfl;(with_reducible repeat (first|refine blk_drewN ?_ _|refine blk_drew ?_|refine blk_alloc ?_ _));refine blk_put (cs:=#[.int .i64 qu,.int .i64 0,.int .i64 0,.int .i64 0,.int .i64 0,.int .i64 0,.int .i64 0]) ?_ 1 _ rfl;(with_reducible repeat (first|refine blk_drewN ?_ _|refine blk_drew ?_|refine blk_alloc ?_ _));refine blk_put (cs:=#[.int .i64 0,.int .i64 0,.int .i64 0,.int .i64 0,.int .i64 0,.int .i64 0,.int .i64 0]) ?_ 0 _ rfl;(with_reducible repeat (first|refine blk_drewN ?_ _|refine blk_drew ?_|refine blk_alloc ?_ _));exact qd.out) : P:=h
theorem z47x1 {P : Prop} (h : P:=by (with_reducible repeat (first|refine blk_drewN ?_ _|refine blk_drew ?_|refine blk_alloc ?_ _));refine blk_put (cs:=#[.int .i64 qu,.int .i64 3,.int .i64 (wrap64 (1 + qv)),.int .i64 wc,.int .i64 (wrap64 (1 + qz)),.int .i64 0,.int .i64 0]) ?_ 6 _ rfl;(with_reducible repeat (first|refine blk_drewN ?_ _|refine blk_drew ?_|refine blk_alloc ?_ _));refine blk_put (cs:=#[.int .i64 qu,.int .i64 3,.int .i64 (wrap64 (1 + qv)),.int .i64 wc,.int .i64 (wrap64 (1 + qz)),.int .i64 0,.int .i64 0]) ?_ 5 _ rfl;(with_reducible repeat (first|refine blk_drewN ?_ _|refine blk_drew ?_|refine blk_alloc ?_ _));refine blk_put (cs:=#[.int .i64 qu,.int .i64 3,.int .i64 (wrap64 (1 + qv)),.int .i64 wc,.int .i64 0,.int .i64 0,.int .i64 0]) ?_ 4 _ rfl;(with_reducible repeat (first|refine blk_drewN ?_ _|refine blk_drew ?_|refine blk_alloc ?_ _));refine blk_put (cs:=#[.int .i64 qu,.int .i64 3,.int .i64 (wrap64 (1 + qv)),.int .i64 0,.int .i64 0,.int .i64 0,.int .i64 0]) ?_ 3 _ rfl;(with_reducible repeat (first|refine blk_drewN ?_ _|refine blk_drew ?_|refine blk_alloc ?_ _));refine blk_put (cs:=#[.int .i64 qu,.int .i64 3,.int .i64 0,.int .i64 0,.int .i64 0,.int .i64 0,.int .i64 0]) ?_ 2 _ rfl;(with_reducible repeat (first|refine blk_drewN ?_ _|refine blk_drew ?_|refine blk_alloc ?_ _));refine blk_put (cs:=#[.int .i64 qu,.int .i64 0,.int .i64 0,.int .i64 0,.int .i64 0,.int .i64 0,.int .i64 0]) ?_ 1 _ rfl;(with_reducible repeat (first|refine blk_drewN ?_ _|refine blk_drew ?_|refine blk_alloc ?_ _));refine blk_put (cs:=#[.int .i64 0,.int .i64 0,.int .i64 0,.int .i64 0,.int .i64 0,.int .i64 0,.int .i64 0]) ?_ 0 _ rfl;(with_reducible repeat (first|refine blk_drewN ?_ _|refine blk_drew ?_|refine blk_alloc ?_ _));exact qg.out) : P:=h
theorem z47x0 {P : Prop} (h : P:=by (with_reducible repeat (first|refine blk_drewN ?_ _|refine blk_drew ?_|refine blk_alloc ?_ _));refine blk_put (cs:=#[.int .i64 wk,.int .i64 3,.int .i64 (wrap64 (1 + wl)),.int .i64 wu,.int .i64 (wrap64 (1 + wy)),.int .i64 0,.int .i64 0]) ?_ 6 _ rfl;(with_reducible repeat (first|refine blk_drewN ?_ _|refine blk_drew ?_|refine blk_alloc ?_ _));refine blk_put (cs:=#[.int .i64 wk,.int .i64 3,.int .i64 (wrap64 (1 + wl)),.int .i64 wu,.int .i64 (wrap64 (1 + wy)),.int .i64 0,.int .i64 0]) ?_ 5 _ rfl;(with_reducible repeat (first|refine blk_drewN ?_ _|refine blk_drew ?_|refine blk_alloc ?_ _));refine blk_put (cs:=#[.int .i64 wk,.int .i64 3,.int .i64 (wrap64 (1 + wl)),.int .i64 wu,.int .i64 0,.int .i64 0,.int .i64 0]) ?_ 4 _ rfl;(with_reducible repeat (first|refine blk_drewN ?_ _|refine blk_drew ?_|refine blk_alloc ?_ _));refine blk_put (cs:=#[.int .i64 wk,.int .i64 3,.int .i64 (wrap64 (1 + wl)),.int .i64 0,.int .i64 0,.int .i64 0,.int .i64 0]) ?_ 3 _ rfl;(with_reducible repeat (first|refine blk_drewN ?_ _|refine blk_drew ?_|refine blk_alloc ?_ _));refine blk_put (cs:=#[.int .i64 wk,.int .i64 3,.int .i64 0,.int .i64 0,.int .i64 0,.int .i64 0,.int .i64 0]) ?_ 2 _ rfl;(with_reducible repeat (first|refine blk_drewN ?_ _|refine blk_drew ?_|refine blk_alloc ?_ _));refine blk_put (cs:=#[.int .i64 wk,.int .i64 0,.int .i64 0,.int .i64 0,.int .i64 0,.int .i64 0,.int .i64 0]) ?_ 1 _ rfl;(with_reducible repeat (first|refine blk_drewN ?_ _|refine blk_drew ?_|refine blk_alloc ?_ _));refine blk_put (cs:=#[.int .i64 0,.int .i64 0,.int .i64 0,.int .i64 0,.int .i64 0,.int .i64 0,.int .i64 0]) ?_ 0 _ rfl;(with_reducible repeat (first|refine blk_drewN ?_ _|refine blk_drew ?_|refine blk_alloc ?_ _));exact wa.out) : P:=h

/-! ### spec_DrawCacheWith: function 39 -/
mutual
def spec_DrawCacheWith.l0 : Nat → Int → List (S41) → Int → List Int → Int → Option ((List (S41)) × Int × Int × Int × Int × Int × Int × Int × Int)
 | 0,_,_,_,_,_=>none
 | k + 1,x6,x7,x8,wd,ul=>if x8 > 0 then ((spec_l71Key.f k wd ul).bind fun qay=>((spec_l6Rd_pick.f k wd qay.2 3).bind fun um=>((spec_l6Rd_pick.f k wd um.2 5).bind fun vz=>((spec_l6Rd_pick.f k wd vz.2 9).bind fun wj=>((spec_l3Among.f k x7 qay.1 3 (wrap64 (1 + um.1)) (mx (wrap64 (x6 - vz.1)) 0) (wrap64 (1 + wj.1)) 0 0).bind fun uc=>(if uc = true then (spec_DrawCacheWith.l0 k x6 x7 (wrap64 (x8 - 1)) wd wj.2) else (if x7.length < 2513169434916 then (spec_DrawCacheWith.l0 k x6 (x7 ++ [(⟨qay.1,3,wrap64 (1 + um.1),mx (wrap64 (x6 - vz.1)) 0,wrap64 (1 + wj.1),0,0⟩ : S41)]) (wrap64 (x8 - 1)) wd wj.2) else (none)))))))) else ((spec_l71Key.f k wd ul).bind fun un=>((spec_l6Rd_pick.f k wd un.2 3).bind fun vw=>((spec_l6Rd_pick.f k wd vw.2 3).bind fun ws=>((spec_l6Rd_pick.f k wd ws.2 9).bind fun wg=>((spec_l6Rd_pick.f k wd wg.2 12).bind fun qp=>(if qp.1 = 0 then ((spec_l71Seal.f k wd qp.2).bind fun qy=>((spec_l6Rd_pick.f k wd qy.2.2.2.2.2.2.2 30).bind fun vk=>(some (x7,qy.1,qy.2.1,qy.2.2.1,qy.2.2.2.1,qy.2.2.2.2.1,qy.2.2.2.2.2.1,qy.2.2.2.2.2.2.1,wrap64 (x6 + (wrap64 ((wrap64 (Int.tdiv vk.1 29)) * 100))))))) else (if qp.1 = 1 then (if (x7.length : Int) > 0 then ((spec_l6Rd_pick.f k wd qp.2 (x7.length : Int)).bind fun qr=>(if 0 ≤ qr.1 then (if qr.1 < (x7.length : Int) then ((spec_l6Rd_pick.f k wd qr.2 30).bind fun wz=>(some (x7,(rd_T41 x7 qr.1).f0,(rd_T41 x7 qr.1).f1,(rd_T41 x7 qr.1).f2,(rd_T41 x7 qr.1).f3,(rd_T41 x7 qr.1).f4,(rd_T41 x7 qr.1).f5,(rd_T41 x7 qr.1).f6,wrap64 (x6 + (wrap64 ((wrap64 (Int.tdiv wz.1 29)) * 100)))))) else (none)) else (none))) else ((spec_l6Rd_pick.f k wd qp.2 30).bind fun vv=>(some (x7,un.1,3,wrap64 (1 + vw.1),mx (wrap64 (x6 - ws.1)) 0,wrap64 (1 + wg.1),0,0,wrap64 (x6 + (wrap64 ((wrap64 (Int.tdiv vv.1 29)) * 100))))))) else (if qp.1 = 2 then ((spec_l6Rd_pick.f k wd qp.2 30).bind fun vu=>(some (x7,un.1,3,wrap64 (1 + vw.1),wrap64 (x6 + 1),wrap64 (1 + wg.1),0,0,wrap64 (x6 + (wrap64 ((wrap64 (Int.tdiv vu.1 29)) * 100)))))) else (if qp.1 = 3 then (spec_DrawCacheWith.l1 k x6 x7 wd qp.2 un.1 3 (wrap64 (1 + vw.1)) (mx (wrap64 (x6 - ws.1)) 0) (wrap64 (1 + wg.1)) 0 0) else (if qp.1 = 4 then ((spec_l71Seal.f k wd qp.2).bind fun qx=>(if x7.length < 2513169434916 then ((spec_l6Rd_pick.f k wd qx.2.2.2.2.2.2.2 30).bind fun wr=>(some ((x7 ++ [(⟨qx.1,qx.2.1,qx.2.2.1,qx.2.2.2.1,qx.2.2.2.2.1,qx.2.2.2.2.2.1,qx.2.2.2.2.2.2.1⟩ : S41)]),un.1,3,wrap64 (1 + vw.1),mx (wrap64 (x6 - ws.1)) 0,wrap64 (1 + wg.1),0,0,wrap64 (x6 + (wrap64 ((wrap64 (Int.tdiv wr.1 29)) * 100)))))) else (none))) else ((spec_l6Rd_pick.f k wd qp.2 30).bind fun vt=>(some (x7,un.1,3,wrap64 (1 + vw.1),mx (wrap64 (x6 - ws.1)) 0,wrap64 (1 + wg.1),0,0,wrap64 (x6 + (wrap64 ((wrap64 (Int.tdiv vt.1 29)) * 100))))))))))))))))
def spec_DrawCacheWith.l1 : Nat → Int → List (S41) → List Int → Int → Int → Int → Int → Int → Int → Int → Int → Option ((List (S41)) × Int × Int × Int × Int × Int × Int × Int × Int)
 | 0,_,_,_,_,_,_,_,_,_,_,_=>none
 | k + 1,x6,x7,wd,ul,js,jr,jq,jp,jo,jn,jm=>(spec_l6Rd_pick.f k wd ul 2).bind fun qax=>(if (x7.length : Int) < (wrap64 (20 + qax.1)) then (if x7.length < 2513169434916 then (spec_DrawCacheWith.l1 k x6 (x7 ++ [(⟨wrap64 (30 + (x7.length : Int)),3,1,x6,1,0,0⟩ : S41)]) wd qax.2 js jr jq jp jo jn jm) else (none)) else ((spec_l6Rd_pick.f k wd qax.2 30).bind fun qaw=>(some (x7,js,jr,jq,jp,jo,jn,jm,wrap64 (x6 + (wrap64 ((wrap64 (Int.tdiv qaw.1 29)) * 100)))))))
end
def spec_DrawCacheWith.f (k : Nat) (l0 : List Int) : Option ((List (S41)) × Int × Int × Int × Int × Int × Int × Int × Int):=(spec_l6Open.f l0).bind fun ud=>((spec_l6Rd_pick.f k ud.1 ud.2 9).bind fun uj=>((spec_l6Rd_pick.f k ud.1 uj.2 5).bind fun vn=>(spec_DrawCacheWith.l0 k uj.1 (([] : List (S41))) vn.1 ud.1 vn.2)))
theorem spec_DrawCacheWith.mono_l : ∀ k,(∀ y0 y1 y2 y3 y4,LeO (spec_DrawCacheWith.l0 k y0 y1 y2 y3 y4) (spec_DrawCacheWith.l0 (k + 1) y0 y1 y2 y3 y4)) ∧ (∀ y0 y1 y2 y3 y4 y5 y6 y7 y8 y9 y10,LeO (spec_DrawCacheWith.l1 k y0 y1 y2 y3 y4 y5 y6 y7 y8 y9 y10) (spec_DrawCacheWith.l1 (k + 1) y0 y1 y2 y3 y4 y5 y6 y7 y8 y9 y10))
 | 0=>⟨fun _ _ _ _ _ r h=>by simp [spec_DrawCacheWith.l0] at h,fun _ _ _ _ _ _ _ _ _ _ _ r h=>by simp [spec_DrawCacheWith.l1] at h⟩
 | k + 1=>by
  obtain ⟨ih0,ih1⟩:=spec_DrawCacheWith.mono_l k
  refine ⟨?_,?_⟩
  ·intro y0 y1 y2 y3 y4
   unfold spec_DrawCacheWith.l0
   repeat' first
   | (with_reducible exact ih0 _ _ _ _ _)
   | (with_reducible exact ih1 _ _ _ _ _ _ _ _ _ _ _)
   | (with_reducible exact spec_l3Among.mono _ _ _ _ _ _ _ _ _)
   | (with_reducible exact spec_l6Rd_pick.mono _ _ _ _)
   | (with_reducible exact spec_l71Key.mono _ _ _)
   | (with_reducible exact spec_l71Seal.mono _ _ _)
   | (with_reducible exact LeO.refl _)
   | (with_reducible exact LeO.none _)
   | (with_reducible refine LeO.ite ?_ ?_)
   | (with_reducible refine LeO.bind ?_ (fun _=>?_))
   | exact ih0 _ _ _ _ _
   | exact ih1 _ _ _ _ _ _ _ _ _ _ _
   | exact spec_l3Among.mono _ _ _ _ _ _ _ _ _
   | exact spec_l6Rd_pick.mono _ _ _ _
   | exact spec_l71Key.mono _ _ _
   | exact spec_l71Seal.mono _ _ _
   | exact LeO.none _
   | refine LeO.ite ?_ ?_
   | refine LeO.bind ?_ (fun _=>?_)
  ·intro y0 y1 y2 y3 y4 y5 y6 y7 y8 y9 y10
   unfold spec_DrawCacheWith.l1
   repeat' first
   | (with_reducible exact ih0 _ _ _ _ _)
   | (with_reducible exact ih1 _ _ _ _ _ _ _ _ _ _ _)
   | (with_reducible exact spec_l3Among.mono _ _ _ _ _ _ _ _ _)
   | (with_reducible exact spec_l6Rd_pick.mono _ _ _ _)
   | (with_reducible exact spec_l71Key.mono _ _ _)
   | (with_reducible exact spec_l71Seal.mono _ _ _)
   | (with_reducible exact LeO.refl _)
   | (with_reducible exact LeO.none _)
   | (with_reducible refine LeO.ite ?_ ?_)
   | (with_reducible refine LeO.bind ?_ (fun _=>?_))
   | exact ih0 _ _ _ _ _
   | exact ih1 _ _ _ _ _ _ _ _ _ _ _
   | exact spec_l3Among.mono _ _ _ _ _ _ _ _ _
   | exact spec_l6Rd_pick.mono _ _ _ _
   | exact spec_l71Key.mono _ _ _
   | exact spec_l71Seal.mono _ _ _
   | exact LeO.none _
   | refine LeO.ite ?_ ?_
   | refine LeO.bind ?_ (fun _=>?_)
theorem spec_DrawCacheWith.mono : ∀ a0 k,LeO (spec_DrawCacheWith.f k a0) (spec_DrawCacheWith.f (k + 1) a0):=by
 intro a0 k
 obtain ⟨ih0,ih1⟩:=spec_DrawCacheWith.mono_l k
 unfold spec_DrawCacheWith.f
 repeat' first
   | (with_reducible exact ih0 _ _ _ _ _)
   | (with_reducible exact ih1 _ _ _ _ _ _ _ _ _ _ _)
   | (with_reducible exact spec_l3Among.mono _ _ _ _ _ _ _ _ _)
   | (with_reducible exact spec_l6Rd_pick.mono _ _ _ _)
   | (with_reducible exact spec_l71Key.mono _ _ _)
   | (with_reducible exact spec_l71Seal.mono _ _ _)
   | (with_reducible exact LeO.refl _)
   | (with_reducible exact LeO.none _)
   | (with_reducible refine LeO.ite ?_ ?_)
   | (with_reducible refine LeO.bind ?_ (fun _=>?_))
   | exact ih0 _ _ _ _ _
   | exact ih1 _ _ _ _ _ _ _ _ _ _ _
   | exact spec_l3Among.mono _ _ _ _ _ _ _ _ _
   | exact spec_l6Rd_pick.mono _ _ _ _
   | exact spec_l71Key.mono _ _ _
   | exact spec_l71Seal.mono _ _ _
   | exact LeO.none _
   | refine LeO.ite ?_ ?_
   | refine LeO.bind ?_ (fun _=>?_)
def spec_DrawCacheWith.T24 : Bool × List (List Nat × List Nat):=(true,[([],[]),([],[]),([],[]),([],[]),([3],[3]),([4],[4]),([5],[5]),([2,6],[2,6]),([0,4,0],[0]),([1,8,0,1,8],[1]),([7,9,0,1,2,3,4,5,6,7,8,9],[7])])
def spec_DrawCacheWith.B24 : List Nat:=[0,0,0,0,8,24,56,124,25,283,1023]
theorem spec_DrawCacheWith.tab24 : rtab .any (opsOf Try.f39 24) = spec_DrawCacheWith.T24:=by kernel_rfl
theorem spec_DrawCacheWith.bits24 : waitsOk spec_DrawCacheWith.T24.2 spec_DrawCacheWith.B24 = true:=by kernel_rfl
set_option maxHeartbeats 8000000 in
set_option maxRecDepth 100000 in
theorem spec_DrawCacheWith.calls (k : Nat) (A0 : Option Addr) (c0 : Nat) (l0 : List Int) (r1 : List (S41)) (r2 : Int) (r3 : Int) (r4 : Int) (r5 : Int) (r6 : Int) (r7 : Int) (r8 : Int) (r9 : Int) (w : World) (hr0 : Kd.C (Kd.int .u8) w A0 l0.length l0) (hc0 : l0.length ≤ c0) (h : spec_DrawCacheWith.f k l0 = some (r1,r2,r3,r4,r5,r6,r7,r8,r9)) :
  Calls Try.prog 39 #[.slice A0 l0.length c0] w fun e w' => ∃ v0_ : Value,e = .returned (.tuple #[v0_,.agg #[.int .i64 r2,.int .i64 r3,.int .i64 r4,.int .i64 r5,.int .i64 r6,.int .i64 r7,.int .i64 r8],.int .i64 r9]) ∧ Kd.R k41 41 w' w.heap.size (fun _=>True) v0_ r1 ∧ Below w.heap.size w w':=by
 have qtr:=Try.underlying41
 have HR0:=Aside0.mk hr0
 have HC0:=Aside0.mk hc0
 clear hr0 hc0
 have HB:=Aside0.mk (Below.refl w.heap.size w)
 have H : ((spec_l6Open.f l0).bind fun ud=>((spec_l6Rd_pick.f k ud.1 ud.2 9).bind fun uj=>((spec_l6Rd_pick.f k ud.1 uj.2 5).bind fun vn=>(spec_DrawCacheWith.l0 k uj.1 (([] : List (S41))) vn.1 ud.1 vn.2)))) = some (r1,r2,r3,r4,r5,r6,r7,r8,r9):=h
 clear h
 replace H:=Option.bind_eq_some_iff.mp H
 obtain ⟨⟨qj,qdb⟩,A20,H⟩:=H
 replace H : ((spec_l6Rd_pick.f k qj qdb 9).bind fun uj=>((spec_l6Rd_pick.f k qj uj.2 5).bind fun vn=>(spec_DrawCacheWith.l0 k uj.1 (([] : List (S41))) vn.1 qj vn.2))) = some (r1,r2,r3,r4,r5,r6,r7,r8,r9):=H
 have A2:=Aside0.mk A20
 clear A20
 replace H:=Option.bind_eq_some_iff.mp H
 obtain ⟨⟨qo,gj⟩,A30,H⟩:=H
 replace H : ((spec_l6Rd_pick.f k qj gj 5).bind fun vn=>(spec_DrawCacheWith.l0 k qo (([] : List (S41))) vn.1 qj vn.2)) = some (r1,r2,r3,r4,r5,r6,r7,r8,r9):=H
 have A3:=Aside0.mk A30
 clear A30
 obtain ⟨qcy,uv⟩ : ∃ y_ : List (S41),y_ = (([] : List (S41))):=⟨_,rfl⟩
 replace H : ((spec_l6Rd_pick.f k qj gj 5).bind fun vn=>(spec_DrawCacheWith.l0 k qo qcy vn.1 qj vn.2)) = some (r1,r2,r3,r4,r5,r6,r7,r8,r9):=by first|(rw [uv];with_reducible exact H)|(have H2_:=(Option.bind_some _ _).symm.trans H;rw [uv];with_reducible exact H2_)|(have H2_:=(Option.bind_some _ _).symm.trans H;with_reducible exact H2_)|with_reducible exact H|(rw [uv];exact H)|exact H
 have qcq:=Aside0.mk uv
 clear uv
 replace H:=Option.bind_eq_some_iff.mp H
 obtain ⟨⟨qda,qcz⟩,A40,H⟩:=H
 replace H : (spec_DrawCacheWith.l0 k qo qcy qda qj qcz) = some (r1,r2,r3,r4,r5,r6,r7,r8,r9):=H
 have A4:=Aside0.mk A40
 clear A40
 have H':=Aside0.mk H
 clear H
 go_enter Try.func39,Try.ntmps39
 go_wp2_with (first|((with_reducible refine gate_dst (N:=3) rfl ?_);refine box_event ?hg (N:=3) ?hd (cs:=#[.int .i64 0,.int .i64 0,.int .i64 0,.int .i64 0,.int .i64 0,.int .i64 0,.int .i64 0]) (t:=41) ?hr ?_;(case hd=>rfl);(case hg=>rfl);(case hr=>first|(go_simp;done)|(go_simp;rfl));intro qb hg w5 hbox hb;have n0_:=Aside0.mk (below_step z47x20 hb);have n1_:=Aside0.mk (hbox);have n2_:=Aside0.mk ((by rw [hg];exact (below_size z47x20) : w.heap.size ≤ qb));have n3_:=Aside0.mk ((by rw [hg];exact (below_size z47x20) : w.heap.size ≤ qb));clear HB;have HB:=n0_;have qg:=n1_;have qsf:=n2_;have qq:=n3_;clear n0_ n1_ n2_ n3_;clear hb hbox hg)|((with_reducible refine gate_callee (f:=69) rfl ?_);refine goesL_ (some 12) rfl rfl Try.func69 (by kernel_rfl) rfl #[.slice A0 l0.length c0] rfl z47x19 ?_;(with_reducible refine (spec_l6Open.calls _ _ l0 qj qdb w _ ?side1 ?side2 ?side3 A2.out).mono ?_);(case side1=>repeat (first|(with_reducible first|exact HB.out|apply below_alloc|apply pw_below_drewN|apply below_drew1|refine below_set ?_ qq.out)|exact HB.out));(case side2=>exact HR0.out);(case side3=>exact HC0.out);rintro e w6 ⟨qm,rfl,hi,hb,hb2⟩; refine ⟨_,rfl,?_⟩; have n0_:=Aside0.mk (blk_below (g:=qb) (o:=.cells #[.int .i64 0,.int .i64 0,.int .i64 0,.int .i64 0,.int .i64 0,.int .i64 0,.int .i64 0] 41 (0,0)) z47x21 hb2);have n1_:=Aside0.mk (hb);have n2_:=Aside0.mk (hi);have n3_:=Aside0.mk (IsS158.ne_blk hi (blk_below (g:=qb) (o:=.cells #[.int .i64 0,.int .i64 0,.int .i64 0,.int .i64 0,.int .i64 0,.int .i64 0,.int .i64 0] 41 (0,0)) z47x21 hb2) (by decide));have n4_:=Aside0.mk (Ne.symm (IsS158.ne_blk hi (blk_below (g:=qb) (o:=.cells #[.int .i64 0,.int .i64 0,.int .i64 0,.int .i64 0,.int .i64 0,.int .i64 0,.int .i64 0] 41 (0,0)) z47x21 hb2) (by decide)));clear qg;clear HB;have qg:=n0_;have HB:=n1_;have qc:=n2_;have qf:=n3_;have ql:=n4_;clear n0_ n1_ n2_ n3_ n4_;(try clear hb);(try clear hb2);(try clear hk);(try clear hi))|((with_reducible refine gate_callee (f:=70) rfl ?_);refine goesL_ (some 14) rfl rfl Try.func70 (by kernel_rfl) rfl #[.pointer (some ⟨qm,0,none⟩),.int .i64 9] rfl z47x19 ?_;(with_reducible refine (spec_l6Rd_pick.calls k qm qj qdb 9 qo gj w _ ?side1 ?side2 A3.out).mono ?_);(case side1=>repeat (first|(with_reducible first|exact qc.out|apply IsS158.alloc|apply IsS158.drewN|apply IsS158.drew|apply IsS158.set_1|refine IsS158.far ?_ qf.out _)|exact qc.out));(case side2=>repeat (first|(with_reducible first|exact HB.out|apply below_alloc|apply pw_below_drewN|apply below_drew1|refine below_set ?_ (IsS158.ge qc.out)|refine below_set ?_ qq.out)|exact HB.out));rintro e w7 ⟨rfl,hi,hb,hk⟩; refine ⟨_,rfl,?_⟩; have n0_:=Aside0.mk (KeepBut.blk hk (g':=qb) (o:=.cells #[.int .i64 0,.int .i64 0,.int .i64 0,.int .i64 0,.int .i64 0,.int .i64 0,.int .i64 0] 41 (0,0)) z47x21 ql.out (by simp));have n1_:=Aside0.mk (hb);have n2_:=Aside0.mk (hi);clear qg;clear HB;clear qc;have qg:=n0_;have HB:=n1_;have qc:=n2_;clear n0_ n1_ n2_;(try clear hb);(try clear hb2);(try clear hk);(try clear hi))|((with_reducible refine gate_dst (N:=15) rfl ?_);refine Kd.R_lit k41 _ 41 ?hg (N:=15) ?hd (xs:=([] : List (S41))) (inner:=[]) (ok:=fun _=>True) (okp:=fun _=>True) ?hr ?hp (fun _ hk=>hk) trivial (Below.refl _ _) (Nat.le_refl _) (by simp) ?_;(case hd=>rfl);(case hg=>rfl);(case hr=>first|(go_simp;done)|(go_simp;rfl));(case hp=>exact (Reps.none _ _));intro qtp w8 ho9 hb hg_ hnew_;clear hg_ hnew_;(first|rw [← qcq.out] at ho9|(simp only [Int.reduceToNat] at ho9;rw [← qcq.out] at ho9));have n0_:=Aside0.mk (Kd.R_lower (Kd.R_newB ho9 (g:=qb) (o:=.cells #[.int .i64 0,.int .i64 0,.int .i64 0,.int .i64 0,.int .i64 0,.int .i64 0,.int .i64 0] 41 (0,0)) z47x21) (below_size z47x17));have n1_:=Aside0.mk (blk_below (g:=qb) (o:=.cells #[.int .i64 0,.int .i64 0,.int .i64 0,.int .i64 0,.int .i64 0,.int .i64 0,.int .i64 0] 41 (0,0)) z47x21 hb);have n2_:=Aside0.mk (IsS158.below z47x18 hb);have n3_:=Aside0.mk (below_step z47x17 hb);clear qg;clear qc;clear HB;have jt:=n0_;have qg:=n1_;have qc:=n2_;have HB:=n3_;clear n0_ n1_ n2_ n3_;clear hb ho9)|((with_reducible refine gate_callee (f:=70) rfl ?_);refine goesL_ (some 17) rfl rfl Try.func70 (by kernel_rfl) rfl #[.pointer (some ⟨qm,0,none⟩),.int .i64 5] rfl z47x19 ?_;(with_reducible refine (spec_l6Rd_pick.calls k qm qj gj 5 qda qcz w _ ?side1 ?side2 A4.out).mono ?_);(case side1=>repeat (first|(with_reducible first|exact qc.out|apply IsS158.alloc|apply IsS158.drewN|apply IsS158.drew|apply IsS158.set_1|refine IsS158.far ?_ qf.out _)|exact qc.out));(case side2=>repeat (first|(with_reducible first|exact HB.out|apply below_alloc|apply pw_below_drewN|apply below_drew1|refine below_set ?_ (IsS158.ge qc.out)|refine below_set ?_ qq.out)|exact HB.out));rintro e w10 ⟨rfl,hi,hb,hk⟩; refine ⟨_,rfl,?_⟩; have n0_:=Aside0.mk (KeepBut.blk hk (g':=qb) (o:=.cells #[.int .i64 0,.int .i64 0,.int .i64 0,.int .i64 0,.int .i64 0,.int .i64 0,.int .i64 0] 41 (0,0)) z47x21 ql.out (by simp));have n1_:=Aside0.mk (Kd.R_mono (Kd.R_keep (IsS158.apart (show IsS158 w _ qm qj gj from by repeat (first|(with_reducible first|exact qc.out|apply IsS158.alloc|apply IsS158.drewN|apply IsS158.drew|apply IsS158.set_1|refine IsS158.far ?_ qf.out _)|exact qc.out)) (by (with_reducible repeat (first|apply Kd.R_alloc|apply Kd.R_drewN|apply Kd.R_drew));exact jt.out) (by decide)) hk (fun _ h=>h.2)) (fun _ h=>h.1));have n2_:=Aside0.mk (hb);have n3_:=Aside0.mk (hi);clear qg;clear jt;clear HB;clear qc;have qg:=n0_;have jt:=n1_;have HB:=n2_;have qc:=n3_;clear n0_ n1_ n2_ n3_;(try clear hb);(try clear hb2);(try clear hk);(try clear hi)))
 go_loopg [7,8] k (fun kq v7 v8 w' => ∃ (qh : List (S41)) (vo : Int) (wb : Int),v8 = .int .i64 vo ∧ Aside0 (spec_DrawCacheWith.l0 kq qo qh vo qj wb = some (r1,r2,r3,r4,r5,r6,r7,r8,r9)) ∧ Aside0 (kq ≤ k) ∧ Aside0 (Kd.R k41 41 w' w.heap.size (fun k_=>k_ ≠ qb) v7 qh) ∧ Aside0 (w'.heap[qb]? = some (.cells #[.int .i64 0,.int .i64 0,.int .i64 0,.int .i64 0,.int .i64 0,.int .i64 0,.int .i64 0] 41 (0,0))) ∧ Aside0 (IsS158 w w' qm qj wb) ∧ Aside0 (Below w.heap.size w w'))
 case atStart=>exact ⟨(qcy),(qda),(qcz),(by first|rfl|(simp;done)|(simp [*];done)),H',⟨Nat.le_refl _⟩,⟨by (with_reducible repeat (first|apply Kd.R_alloc|apply Kd.R_drewN|apply Kd.R_drew));exact Kd.R_mono jt.out (fun _ hk=>hk.2)⟩,⟨by (with_reducible repeat (first|refine blk_drewN ?_ _|refine blk_drew ?_|refine blk_alloc ?_ _));exact qg.out⟩,⟨by repeat (first|(with_reducible first|exact qc.out|apply IsS158.alloc|apply IsS158.drewN|apply IsS158.drew|apply IsS158.set_1|refine IsS158.far ?_ qf.out _)|exact qc.out)⟩,⟨by repeat (first|(with_reducible first|exact HB.out|apply below_alloc|apply pw_below_drewN|apply below_drew1|refine below_set ?_ (IsS158.ge qc.out)|refine below_set ?_ qq.out)|exact HB.out)⟩⟩
 case round =>
  clear H'
  try clear p2
  try clear c3
  try clear c6
  try clear c7
  obtain ⟨qh,vo,wb,rfl,HA,HK1,HO_7,qg,qc,HB⟩:=hrel
  cases gk with
  | zero=>exact absurd HA.out (by simp [spec_DrawCacheWith.l0])
  | succ k1 =>
   have H:=HA.out
   clear HA
   simp only [spec_DrawCacheWith.l0] at H
   by_cases c11 : vo > 0
   ·rw [if_pos c11] at H
    have qhv : decide (0 < vo) = true:=decide_eq_true c11
    clear c11
    replace H:=Option.bind_eq_some_iff.mp H
    obtain ⟨⟨wk,jk⟩,qiu,H⟩:=H
    replace H : ((spec_l6Rd_pick.f k1 qj jk 3).bind fun um=>((spec_l6Rd_pick.f k1 qj um.2 5).bind fun vz=>((spec_l6Rd_pick.f k1 qj vz.2 9).bind fun wj=>((spec_l3Among.f k1 qh wk 3 (wrap64 (1 + um.1)) (mx (wrap64 (qo - vz.1)) 0) (wrap64 (1 + wj.1)) 0 0).bind fun uc=>(if uc = true then (spec_DrawCacheWith.l0 k1 qo qh (wrap64 (vo - 1)) qj wj.2) else (if qh.length < 2513169434916 then (spec_DrawCacheWith.l0 k1 qo (qh ++ [(⟨wk,3,wrap64 (1 + um.1),mx (wrap64 (qo - vz.1)) 0,wrap64 (1 + wj.1),0,0⟩ : S41)]) (wrap64 (vo - 1)) qj wj.2) else (none))))))) = some (r1,r2,r3,r4,r5,r6,r7,r8,r9):=H
    have A12:=Aside0.mk qiu
    clear qiu
    replace H:=Option.bind_eq_some_iff.mp H
    obtain ⟨⟨wl,jj⟩,qit,H⟩:=H
    replace H : ((spec_l6Rd_pick.f k1 qj jj 5).bind fun vz=>((spec_l6Rd_pick.f k1 qj vz.2 9).bind fun wj=>((spec_l3Among.f k1 qh wk 3 (wrap64 (1 + wl)) (mx (wrap64 (qo - vz.1)) 0) (wrap64 (1 + wj.1)) 0 0).bind fun uc=>(if uc = true then (spec_DrawCacheWith.l0 k1 qo qh (wrap64 (vo - 1)) qj wj.2) else (if qh.length < 2513169434916 then (spec_DrawCacheWith.l0 k1 qo (qh ++ [(⟨wk,3,wrap64 (1 + wl),mx (wrap64 (qo - vz.1)) 0,wrap64 (1 + wj.1),0,0⟩ : S41)]) (wrap64 (vo - 1)) qj wj.2) else (none)))))) = some (r1,r2,r3,r4,r5,r6,r7,r8,r9):=H
    have A13:=Aside0.mk qit
    clear qit
    replace H:=Option.bind_eq_some_iff.mp H
    obtain ⟨⟨ji,ur⟩,qis,H⟩:=H
    replace H : ((spec_l6Rd_pick.f k1 qj ur 9).bind fun wj=>((spec_l3Among.f k1 qh wk 3 (wrap64 (1 + wl)) (mx (wrap64 (qo - ji)) 0) (wrap64 (1 + wj.1)) 0 0).bind fun uc=>(if uc = true then (spec_DrawCacheWith.l0 k1 qo qh (wrap64 (vo - 1)) qj wj.2) else (if qh.length < 2513169434916 then (spec_DrawCacheWith.l0 k1 qo (qh ++ [(⟨wk,3,wrap64 (1 + wl),mx (wrap64 (qo - ji)) 0,wrap64 (1 + wj.1),0,0⟩ : S41)]) (wrap64 (vo - 1)) qj wj.2) else (none))))) = some (r1,r2,r3,r4,r5,r6,r7,r8,r9):=H
    have A14:=Aside0.mk qis
    clear qis
    obtain ⟨wu,ui⟩ : ∃ j_ : Int,(mx (wrap64 (qo - ji)) 0) = j_:=⟨_,rfl⟩
    replace H : ((spec_l6Rd_pick.f k1 qj ur 9).bind fun wj=>((spec_l3Among.f k1 qh wk 3 (wrap64 (1 + wl)) (wu) (wrap64 (1 + wj.1)) 0 0).bind fun uc=>(if uc = true then (spec_DrawCacheWith.l0 k1 qo qh (wrap64 (vo - 1)) qj wj.2) else (if qh.length < 2513169434916 then (spec_DrawCacheWith.l0 k1 qo (qh ++ [(⟨wk,3,wrap64 (1 + wl),wu,wrap64 (1 + wj.1),0,0⟩ : S41)]) (wrap64 (vo - 1)) qj wj.2) else (none))))) = some (r1,r2,r3,r4,r5,r6,r7,r8,r9):=by first|(rw [ui] at H;exact H)|(simp only [ui] at H ⊢; exact H)
    (try rw [ui] at A12)
    (try rw [ui] at A13)
    (try rw [ui] at A14)
    have hji15_ : (if (wrap64 (qo - ji)) < 0 then 0 else (wrap64 (qo - ji))) = wu:=ui
    replace H:=Option.bind_eq_some_iff.mp H
    obtain ⟨⟨wy,uf⟩,qiq,H⟩:=H
    replace H : ((spec_l3Among.f k1 qh wk 3 (wrap64 (1 + wl)) (wu) (wrap64 (1 + wy)) 0 0).bind fun uc=>(if uc = true then (spec_DrawCacheWith.l0 k1 qo qh (wrap64 (vo - 1)) qj uf) else (if qh.length < 2513169434916 then (spec_DrawCacheWith.l0 k1 qo (qh ++ [(⟨wk,3,wrap64 (1 + wl),wu,wrap64 (1 + wy),0,0⟩ : S41)]) (wrap64 (vo - 1)) qj uf) else (none)))) = some (r1,r2,r3,r4,r5,r6,r7,r8,r9):=H
    have A16:=Aside0.mk qiq
    clear qiq
    replace H:=Option.bind_eq_some_iff.mp H
    obtain ⟨uc,qip,H⟩:=H
    replace H : (if uc = true then (spec_DrawCacheWith.l0 k1 qo qh (wrap64 (vo - 1)) qj uf) else (if qh.length < 2513169434916 then (spec_DrawCacheWith.l0 k1 qo (qh ++ [(⟨wk,3,wrap64 (1 + wl),wu,wrap64 (1 + wy),0,0⟩ : S41)]) (wrap64 (vo - 1)) qj uf) else (none))) = some (r1,r2,r3,r4,r5,r6,r7,r8,r9):=H
    have A17:=Aside0.mk qip
    clear qip
    by_cases c18 : uc = true
    ·subst c18
     rw [if_pos rfl] at H
     have H':=Aside0.mk H
     clear H
     go_wp2_with (first|((with_reducible refine gate_callee (f:=99) rfl ?_);refine goesL_ (some 23) rfl rfl Try.func99 (by kernel_rfl) rfl #[.pointer (some ⟨qm,0,none⟩)] rfl z47x19 ?_;(with_reducible refine (spec_l71Key.calls k1 qm qj wb wk jk w _ ?side1 ?side2 A12.out).mono ?_);(case side1=>repeat (first|(with_reducible first|exact qc.out|apply IsS158.alloc|apply IsS158.drewN|apply IsS158.drew|apply IsS158.set_1|refine IsS158.far ?_ qf.out _)|exact qc.out));(case side2=>repeat (first|(with_reducible first|exact HB.out|apply below_alloc|apply pw_below_drewN|apply below_drew1|refine below_set ?_ (IsS158.ge qc.out)|refine below_set ?_ qq.out)|exact HB.out));rintro e w19 ⟨rfl,hi,hb,hk⟩; refine ⟨_,rfl,?_⟩; have n0_:=Aside0.mk (Kd.R_mono (Kd.R_keep (IsS158.apart (show IsS158 w _ qm qj wb from by repeat (first|(with_reducible first|exact qc.out|apply IsS158.alloc|apply IsS158.drewN|apply IsS158.drew|apply IsS158.set_1|refine IsS158.far ?_ qf.out _)|exact qc.out)) z47x23 (by decide)) hk (fun _ h=>h.2)) (fun _ h=>h.1));have n1_:=Aside0.mk (KeepBut.blk hk (g':=qb) (o:=.cells #[.int .i64 0,.int .i64 0,.int .i64 0,.int .i64 0,.int .i64 0,.int .i64 0,.int .i64 0] 41 (0,0)) z47x21 ql.out (by simp));have n2_:=Aside0.mk (hb);have n3_:=Aside0.mk (hi);clear HO_7;clear qg;clear HB;clear qc;have HO_7:=n0_;have qg:=n1_;have HB:=n2_;have qc:=n3_;clear n0_ n1_ n2_ n3_;(try clear hb);(try clear hb2);(try clear hk);(try clear hi))|((with_reducible refine gate_callee (f:=70) rfl ?_);refine goesL_ (some 25) rfl rfl Try.func70 (by kernel_rfl) rfl #[.pointer (some ⟨qm,0,none⟩),.int .i64 3] rfl z47x19 ?_;(with_reducible refine (spec_l6Rd_pick.calls k1 qm qj jk 3 wl jj w _ ?side1 ?side2 A13.out).mono ?_);(case side1=>repeat (first|(with_reducible first|exact qc.out|apply IsS158.alloc|apply IsS158.drewN|apply IsS158.drew|apply IsS158.set_1|refine IsS158.far ?_ qf.out _)|exact qc.out));(case side2=>repeat (first|(with_reducible first|exact HB.out|apply below_alloc|apply pw_below_drewN|apply below_drew1|refine below_set ?_ (IsS158.ge qc.out)|refine below_set ?_ qq.out)|exact HB.out));rintro e w20 ⟨rfl,hi,hb,hk⟩; refine ⟨_,rfl,?_⟩; have n0_:=Aside0.mk (Kd.R_mono (Kd.R_keep (IsS158.apart (show IsS158 w _ qm qj jk from by repeat (first|(with_reducible first|exact qc.out|apply IsS158.alloc|apply IsS158.drewN|apply IsS158.drew|apply IsS158.set_1|refine IsS158.far ?_ qf.out _)|exact qc.out)) z47x23 (by decide)) hk (fun _ h=>h.2)) (fun _ h=>h.1));have n1_:=Aside0.mk (KeepBut.blk hk (g':=qb) (o:=.cells #[.int .i64 0,.int .i64 0,.int .i64 0,.int .i64 0,.int .i64 0,.int .i64 0,.int .i64 0] 41 (0,0)) z47x21 ql.out (by simp));have n2_:=Aside0.mk (hb);have n3_:=Aside0.mk (hi);clear HO_7;clear qg;clear HB;clear qc;have HO_7:=n0_;have qg:=n1_;have HB:=n2_;have qc:=n3_;clear n0_ n1_ n2_ n3_;(try clear hb);(try clear hb2);(try clear hk);(try clear hi))|((with_reducible refine gate_callee (f:=70) rfl ?_);refine goesL_ (some 29) rfl rfl Try.func70 (by kernel_rfl) rfl #[.pointer (some ⟨qm,0,none⟩),.int .i64 5] rfl z47x19 ?_;(with_reducible refine (spec_l6Rd_pick.calls k1 qm qj jj 5 ji ur w _ ?side1 ?side2 A14.out).mono ?_);(case side1=>repeat (first|(with_reducible first|exact qc.out|apply IsS158.alloc|apply IsS158.drewN|apply IsS158.drew|apply IsS158.set_1|refine IsS158.far ?_ qf.out _)|exact qc.out));(case side2=>repeat (first|(with_reducible first|exact HB.out|apply below_alloc|apply pw_below_drewN|apply below_drew1|refine below_set ?_ (IsS158.ge qc.out)|refine below_set ?_ qq.out)|exact HB.out));rintro e w21 ⟨rfl,hi,hb,hk⟩; refine ⟨_,rfl,?_⟩; have n0_:=Aside0.mk (Kd.R_mono (Kd.R_keep (IsS158.apart (show IsS158 w _ qm qj jj from by repeat (first|(with_reducible first|exact qc.out|apply IsS158.alloc|apply IsS158.drewN|apply IsS158.drew|apply IsS158.set_1|refine IsS158.far ?_ qf.out _)|exact qc.out)) z47x23 (by decide)) hk (fun _ h=>h.2)) (fun _ h=>h.1));have n1_:=Aside0.mk (KeepBut.blk hk (g':=qb) (o:=.cells #[.int .i64 0,.int .i64 0,.int .i64 0,.int .i64 0,.int .i64 0,.int .i64 0,.int .i64 0] 41 (0,0)) z47x21 ql.out (by simp));have n2_:=Aside0.mk (hb);have n3_:=Aside0.mk (hi);clear HO_7;clear qg;clear HB;clear qc;have HO_7:=n0_;have qg:=n1_;have HB:=n2_;have qc:=n3_;clear n0_ n1_ n2_ n3_;(try clear hb);(try clear hb2);(try clear hk);(try clear hi))|((with_reducible refine gate_callee (f:=70) rfl ?_);refine goesL_ (some 33) rfl rfl Try.func70 (by kernel_rfl) rfl #[.pointer (some ⟨qm,0,none⟩),.int .i64 9] rfl z47x19 ?_;(with_reducible refine (spec_l6Rd_pick.calls k1 qm qj ur 9 wy uf w _ ?side1 ?side2 A16.out).mono ?_);(case side1=>repeat (first|(with_reducible first|exact qc.out|apply IsS158.alloc|apply IsS158.drewN|apply IsS158.drew|apply IsS158.set_1|refine IsS158.far ?_ qf.out _)|exact qc.out));(case side2=>repeat (first|(with_reducible first|exact HB.out|apply below_alloc|apply pw_below_drewN|apply below_drew1|refine below_set ?_ (IsS158.ge qc.out)|refine below_set ?_ qq.out)|exact HB.out));rintro e w22 ⟨rfl,hi,hb,hk⟩; refine ⟨_,rfl,?_⟩; have n0_:=Aside0.mk (Kd.R_mono (Kd.R_keep (IsS158.apart (show IsS158 w _ qm qj ur from by repeat (first|(with_reducible first|exact qc.out|apply IsS158.alloc|apply IsS158.drewN|apply IsS158.drew|apply IsS158.set_1|refine IsS158.far ?_ qf.out _)|exact qc.out)) z47x23 (by decide)) hk (fun _ h=>h.2)) (fun _ h=>h.1));have n1_:=Aside0.mk (KeepBut.blk hk (g':=qb) (o:=.cells #[.int .i64 0,.int .i64 0,.int .i64 0,.int .i64 0,.int .i64 0,.int .i64 0,.int .i64 0] 41 (0,0)) z47x21 ql.out (by simp));have n2_:=Aside0.mk (hb);have n3_:=Aside0.mk (hi);clear HO_7;clear qg;clear HB;clear qc;have HO_7:=n0_;have qg:=n1_;have HB:=n2_;have qc:=n3_;clear n0_ n1_ n2_ n3_;(try clear hb);(try clear hb2);(try clear hk);(try clear hi))|((with_reducible refine gate_dst (N:=9) rfl ?_);refine box_event ?hg (N:=9) ?hd (cs:=#[.int .i64 0,.int .i64 0,.int .i64 0,.int .i64 0,.int .i64 0,.int .i64 0,.int .i64 0]) (t:=41) ?hr ?_;(case hd=>rfl);(case hg=>rfl);(case hr=>first|(go_simp;done)|(go_simp;rfl));intro qw hg w23 hbox hb;have n0_:=Aside0.mk (Kd.R_below (Kd.R_elderB z47x23 qw (Nat.le_of_eq hg.symm)) hb);have n1_:=Aside0.mk (blk_below (g:=qb) (o:=.cells #[.int .i64 0,.int .i64 0,.int .i64 0,.int .i64 0,.int .i64 0,.int .i64 0,.int .i64 0] 41 (0,0)) z47x21 hb);have n2_:=Aside0.mk (IsS158.below z47x18 hb);have n3_:=Aside0.mk (below_step z47x17 hb);have n4_:=Aside0.mk (hbox);have n5_:=Aside0.mk ((z47x15 : w.heap.size ≤ qw));have n6_:=Aside0.mk ((z47x15 : w.heap.size ≤ qw));have n7_:=Aside0.mk ((z47x8 : qb ≠ qw));have n8_:=Aside0.mk ((z47x7 : qw ≠ qb));have n9_:=Aside0.mk ((z47x11 : qm ≠ qw));have n10_:=Aside0.mk ((z47x9 : qw ≠ qm));clear HO_7;clear qg;clear qc;clear HB;have HO_7:=n0_;have qg:=n1_;have qc:=n2_;have HB:=n3_;have wa:=n4_;have qid:=n5_;have ju:=n6_;have wh:=n7_;have uh:=n8_;have wm:=n9_;have ug:=n10_;clear n0_ n1_ n2_ n3_ n4_ n5_ n6_ n7_ n8_ n9_ n10_;clear hb hbox hg;have qro:=uh.out;have qrg:=wh.out;have qrn:=ug.out;have qrf:=wm.out;have qmo : w23.cell? ⟨qw,0,none⟩ = some (.int .i64 0):=(blk_cell wa.out 0).trans rfl;have qmn : w23.cell? ⟨qw,1,none⟩ = some (.int .i64 0):=(blk_cell wa.out 1).trans rfl;have qmm : w23.cell? ⟨qw,2,none⟩ = some (.int .i64 0):=(blk_cell wa.out 2).trans rfl;have qml : w23.cell? ⟨qw,3,none⟩ = some (.int .i64 0):=(blk_cell wa.out 3).trans rfl;have qmk : w23.cell? ⟨qw,4,none⟩ = some (.int .i64 0):=(blk_cell wa.out 4).trans rfl;have qmj : w23.cell? ⟨qw,5,none⟩ = some (.int .i64 0):=(blk_cell wa.out 5).trans rfl;have qmi : w23.cell? ⟨qw,6,none⟩ = some (.int .i64 0):=(blk_cell wa.out 6).trans rfl;have qlf:=blk_frozen wa.out 0;have qle:=blk_frozen wa.out 1;have qld:=blk_frozen wa.out 2;have qlc:=blk_frozen wa.out 3;have qlb:=blk_frozen wa.out 4;have qla:=blk_frozen wa.out 5;have qkz:=blk_frozen wa.out 6;obtain ⟨qpj,qhp,qpg⟩:=Kd.R_slice HO_7.out;subst qpg)|((with_reducible refine gate_callee (f:=100) rfl ?_);refine goesL_ (some 38) rfl rfl Try.func100 (by kernel_rfl) rfl #[.slice qpj qh.length qhp,.agg #[.int .i64 wk,.int .i64 3,.int .i64 (wrap64 (1 + wl)),.int .i64 wu,.int .i64 (wrap64 (1 + wy)),.int .i64 0,.int .i64 0]] rfl (by (try simp only [List.map_toArray,List.map_cons,List.map_nil]);first|done|(simp only [ui];rfl)|rfl|(simp only [List.length_drop,List.length_take];rfl)) ?_;(with_reducible refine (spec_l3Among.calls k1 _ _ qh wk 3 (wrap64 (1 + wl)) wu (wrap64 (1 + wy)) 0 0 true _ ?side1 ?side2 A17.out).mono ?_);(case side1=>refine (Kd.R_reads' (e:=41) (base:=w.heap.size) (ok:=fun k_=>(k_ ≠ qb ∧ k_ ≠ qw)) (n:=qh.length) (c:=qhp) ?_).2.2;exact z47x5);(case side2=>exact (Kd.R_reads' HO_7.out).2.1);rintro e w28 ⟨rfl,hb⟩; refine ⟨_,rfl,?_⟩; have n0_:=Aside0.mk (Kd.R_below z47x5 hb);have n1_:=Aside0.mk (blk_below (g:=qb) (o:=.cells #[.int .i64 0,.int .i64 0,.int .i64 0,.int .i64 0,.int .i64 0,.int .i64 0,.int .i64 0] 41 (0,0)) z47x3 hb);have n2_:=Aside0.mk (IsS158.below (show IsS158 w (((((((w23.setCell ⟨qw,0,none⟩ (.int .i64 wk)).setCell ⟨qw,1,none⟩ (.int .i64 3)).setCell ⟨qw,2,none⟩ (.int .i64 (wrap64 (1 + wl)))).setCell ⟨qw,3,none⟩ (.int .i64 wu)).setCell ⟨qw,4,none⟩ (.int .i64 (wrap64 (1 + wy)))).setCell ⟨qw,5,none⟩ (.int .i64 0)).setCell ⟨qw,6,none⟩ (.int .i64 0)) qm qj uf from by repeat (first|(with_reducible first|exact qc.out|apply IsS158.alloc|apply IsS158.drewN|apply IsS158.drew|apply IsS158.set_1|refine IsS158.far ?_ qf.out _|refine IsS158.far ?_ wm.out _)|exact qc.out)) hb);have n3_:=Aside0.mk (blk_below (g:=qw) (o:=.cells #[.int .i64 wk,.int .i64 3,.int .i64 (wrap64 (1 + wl)),.int .i64 wu,.int .i64 (wrap64 (1 + wy)),.int .i64 0,.int .i64 0] 41 (0,0)) z47x0 hb);have n4_:=Aside0.mk (below_step z47x13 hb);clear HO_7;clear qg;clear qc;clear wa;clear HB;have HO_7:=n0_;have qg:=n1_;have qc:=n2_;have wa:=n3_;have HB:=n4_;clear n0_ n1_ n2_ n3_ n4_;(try clear hb);(try clear hb2);(try clear hk);(try clear hi)))
     go_roundg k1
     case measure=>have:=HK1.out;omega
     case rel=>exact ⟨(qh),(wrap64 (vo - 1)),(uf),(by first|rfl|(simp;done)|(simp [*];done)),H',⟨by have:=HK1.out;omega⟩,⟨by (with_reducible repeat (first|apply Kd.R_alloc|apply Kd.R_drewN|apply Kd.R_drew));exact Kd.R_mono HO_7.out (fun _ hk=>hk.1)⟩,⟨by (with_reducible repeat (first|refine blk_drewN ?_ _|refine blk_drew ?_|refine blk_alloc ?_ _));exact qg.out⟩,⟨by repeat (first|(with_reducible first|exact qc.out|apply IsS158.alloc|apply IsS158.drewN|apply IsS158.drew|apply IsS158.set_1|refine IsS158.far ?_ qf.out _|refine IsS158.far ?_ wm.out _)|exact qc.out)⟩,⟨by repeat (first|(with_reducible first|exact HB.out|apply below_alloc|apply pw_below_drewN|apply below_drew1|refine below_set ?_ (IsS158.ge qc.out)|refine below_set ?_ qq.out|refine below_set ?_ ju.out)|exact HB.out)⟩⟩
    ·replace c18:=Bool.eq_false_iff.mpr c18
     subst c18
     rw [if_neg (show ¬ (false = true) by decide)] at H
     by_cases c29 : qh.length < 2513169434916
     rotate_left
     ·rw [if_neg c29] at H
      exact absurd H (by simp)
     rw [if_pos c29] at H
     have qia:=Aside0.mk c29
     clear c29
     obtain ⟨qdk,uu⟩ : ∃ y_ : List (S41),y_ = (qh ++ [(⟨wk,3,wrap64 (1 + wl),wu,wrap64 (1 + wy),0,0⟩ : S41)]):=⟨_,rfl⟩
     replace H : (spec_DrawCacheWith.l0 k1 qo qdk (wrap64 (vo - 1)) qj uf) = some (r1,r2,r3,r4,r5,r6,r7,r8,r9):=by first|(rw [uu];with_reducible exact H)|(have H2_:=(Option.bind_some _ _).symm.trans H;rw [uu];with_reducible exact H2_)|(have H2_:=(Option.bind_some _ _).symm.trans H;with_reducible exact H2_)|with_reducible exact H|(rw [uu];exact H)|exact H
     have qhz:=Aside0.mk uu
     clear uu
     have H':=Aside0.mk H
     clear H
     go_wp2_with (first|((with_reducible refine gate_callee (f:=99) rfl ?_);refine goesL_ (some 23) rfl rfl Try.func99 (by kernel_rfl) rfl #[.pointer (some ⟨qm,0,none⟩)] rfl z47x19 ?_;(with_reducible refine (spec_l71Key.calls k1 qm qj wb wk jk w _ ?side1 ?side2 A12.out).mono ?_);(case side1=>repeat (first|(with_reducible first|exact qc.out|apply IsS158.alloc|apply IsS158.drewN|apply IsS158.drew|apply IsS158.set_1|refine IsS158.far ?_ qf.out _)|exact qc.out));(case side2=>repeat (first|(with_reducible first|exact HB.out|apply below_alloc|apply pw_below_drewN|apply below_drew1|refine below_set ?_ (IsS158.ge qc.out)|refine below_set ?_ qq.out)|exact HB.out));rintro e w30 ⟨rfl,hi,hb,hk⟩; refine ⟨_,rfl,?_⟩; have n0_:=Aside0.mk (Kd.R_mono (Kd.R_keep (IsS158.apart (show IsS158 w _ qm qj wb from by repeat (first|(with_reducible first|exact qc.out|apply IsS158.alloc|apply IsS158.drewN|apply IsS158.drew|apply IsS158.set_1|refine IsS158.far ?_ qf.out _)|exact qc.out)) z47x23 (by decide)) hk (fun _ h=>h.2)) (fun _ h=>h.1));have n1_:=Aside0.mk (KeepBut.blk hk (g':=qb) (o:=.cells #[.int .i64 0,.int .i64 0,.int .i64 0,.int .i64 0,.int .i64 0,.int .i64 0,.int .i64 0] 41 (0,0)) z47x21 ql.out (by simp));have n2_:=Aside0.mk (hb);have n3_:=Aside0.mk (hi);clear HO_7;clear qg;clear HB;clear qc;have HO_7:=n0_;have qg:=n1_;have HB:=n2_;have qc:=n3_;clear n0_ n1_ n2_ n3_;(try clear hb);(try clear hb2);(try clear hk);(try clear hi))|((with_reducible refine gate_callee (f:=70) rfl ?_);refine goesL_ (some 25) rfl rfl Try.func70 (by kernel_rfl) rfl #[.pointer (some ⟨qm,0,none⟩),.int .i64 3] rfl z47x19 ?_;(with_reducible refine (spec_l6Rd_pick.calls k1 qm qj jk 3 wl jj w _ ?side1 ?side2 A13.out).mono ?_);(case side1=>repeat (first|(with_reducible first|exact qc.out|apply IsS158.alloc|apply IsS158.drewN|apply IsS158.drew|apply IsS158.set_1|refine IsS158.far ?_ qf.out _)|exact qc.out));(case side2=>repeat (first|(with_reducible first|exact HB.out|apply below_alloc|apply pw_below_drewN|apply below_drew1|refine below_set ?_ (IsS158.ge qc.out)|refine below_set ?_ qq.out)|exact HB.out));rintro e w31 ⟨rfl,hi,hb,hk⟩; refine ⟨_,rfl,?_⟩; have n0_:=Aside0.mk (Kd.R_mono (Kd.R_keep (IsS158.apart (show IsS158 w _ qm qj jk from by repeat (first|(with_reducible first|exact qc.out|apply IsS158.alloc|apply IsS158.drewN|apply IsS158.drew|apply IsS158.set_1|refine IsS158.far ?_ qf.out _)|exact qc.out)) z47x23 (by decide)) hk (fun _ h=>h.2)) (fun _ h=>h.1));have n1_:=Aside0.mk (KeepBut.blk hk (g':=qb) (o:=.cells #[.int .i64 0,.int .i64 0,.int .i64 0,.int .i64 0,.int .i64 0,.int .i64 0,.int .i64 0] 41 (0,0)) z47x21 ql.out (by simp));have n2_:=Aside0.mk (hb);have n3_:=Aside0.mk (hi);clear HO_7;clear qg;clear HB;clear qc;have HO_7:=n0_;have qg:=n1_;have HB:=n2_;have qc:=n3_;clear n0_ n1_ n2_ n3_;(try clear hb);(try clear hb2);(try clear hk);(try clear hi))|((with_reducible refine gate_callee (f:=70) rfl ?_);refine goesL_ (some 29) rfl rfl Try.func70 (by kernel_rfl) rfl #[.pointer (some ⟨qm,0,none⟩),.int .i64 5] rfl z47x19 ?_;(with_reducible refine (spec_l6Rd_pick.calls k1 qm qj jj 5 ji ur w _ ?side1 ?side2 A14.out).mono ?_);(case side1=>repeat (first|(with_reducible first|exact qc.out|apply IsS158.alloc|apply IsS158.drewN|apply IsS158.drew|apply IsS158.set_1|refine IsS158.far ?_ qf.out _)|exact qc.out));(case side2=>repeat (first|(with_reducible first|exact HB.out|apply below_alloc|apply pw_below_drewN|apply below_drew1|refine below_set ?_ (IsS158.ge qc.out)|refine below_set ?_ qq.out)|exact HB.out));rintro e w32 ⟨rfl,hi,hb,hk⟩; refine ⟨_,rfl,?_⟩; have n0_:=Aside0.mk (Kd.R_mono (Kd.R_keep (IsS158.apart (show IsS158 w _ qm qj jj from by repeat (first|(with_reducible first|exact qc.out|apply IsS158.alloc|apply IsS158.drewN|apply IsS158.drew|apply IsS158.set_1|refine IsS158.far ?_ qf.out _)|exact qc.out)) z47x23 (by decide)) hk (fun _ h=>h.2)) (fun _ h=>h.1));have n1_:=Aside0.mk (KeepBut.blk hk (g':=qb) (o:=.cells #[.int .i64 0,.int .i64 0,.int .i64 0,.int .i64 0,.int .i64 0,.int .i64 0,.int .i64 0] 41 (0,0)) z47x21 ql.out (by simp));have n2_:=Aside0.mk (hb);have n3_:=Aside0.mk (hi);clear HO_7;clear qg;clear HB;clear qc;have HO_7:=n0_;have qg:=n1_;have HB:=n2_;have qc:=n3_;clear n0_ n1_ n2_ n3_;(try clear hb);(try clear hb2);(try clear hk);(try clear hi))|((with_reducible refine gate_callee (f:=70) rfl ?_);refine goesL_ (some 33) rfl rfl Try.func70 (by kernel_rfl) rfl #[.pointer (some ⟨qm,0,none⟩),.int .i64 9] rfl z47x19 ?_;(with_reducible refine (spec_l6Rd_pick.calls k1 qm qj ur 9 wy uf w _ ?side1 ?side2 A16.out).mono ?_);(case side1=>repeat (first|(with_reducible first|exact qc.out|apply IsS158.alloc|apply IsS158.drewN|apply IsS158.drew|apply IsS158.set_1|refine IsS158.far ?_ qf.out _)|exact qc.out));(case side2=>repeat (first|(with_reducible first|exact HB.out|apply below_alloc|apply pw_below_drewN|apply below_drew1|refine below_set ?_ (IsS158.ge qc.out)|refine below_set ?_ qq.out)|exact HB.out));rintro e w33 ⟨rfl,hi,hb,hk⟩; refine ⟨_,rfl,?_⟩; have n0_:=Aside0.mk (Kd.R_mono (Kd.R_keep (IsS158.apart (show IsS158 w _ qm qj ur from by repeat (first|(with_reducible first|exact qc.out|apply IsS158.alloc|apply IsS158.drewN|apply IsS158.drew|apply IsS158.set_1|refine IsS158.far ?_ qf.out _)|exact qc.out)) z47x23 (by decide)) hk (fun _ h=>h.2)) (fun _ h=>h.1));have n1_:=Aside0.mk (KeepBut.blk hk (g':=qb) (o:=.cells #[.int .i64 0,.int .i64 0,.int .i64 0,.int .i64 0,.int .i64 0,.int .i64 0,.int .i64 0] 41 (0,0)) z47x21 ql.out (by simp));have n2_:=Aside0.mk (hb);have n3_:=Aside0.mk (hi);clear HO_7;clear qg;clear HB;clear qc;have HO_7:=n0_;have qg:=n1_;have HB:=n2_;have qc:=n3_;clear n0_ n1_ n2_ n3_;(try clear hb);(try clear hb2);(try clear hk);(try clear hi))|((with_reducible refine gate_dst (N:=9) rfl ?_);refine box_event ?hg (N:=9) ?hd (cs:=#[.int .i64 0,.int .i64 0,.int .i64 0,.int .i64 0,.int .i64 0,.int .i64 0,.int .i64 0]) (t:=41) ?hr ?_;(case hd=>rfl);(case hg=>rfl);(case hr=>first|(go_simp;done)|(go_simp;rfl));intro qw hg w34 hbox hb;have n0_:=Aside0.mk (Kd.R_below (Kd.R_elderB z47x23 qw (Nat.le_of_eq hg.symm)) hb);have n1_:=Aside0.mk (blk_below (g:=qb) (o:=.cells #[.int .i64 0,.int .i64 0,.int .i64 0,.int .i64 0,.int .i64 0,.int .i64 0,.int .i64 0] 41 (0,0)) z47x21 hb);have n2_:=Aside0.mk (IsS158.below z47x18 hb);have n3_:=Aside0.mk (below_step z47x17 hb);have n4_:=Aside0.mk (hbox);have n5_:=Aside0.mk ((z47x15 : w.heap.size ≤ qw));have n6_:=Aside0.mk ((z47x15 : w.heap.size ≤ qw));have n7_:=Aside0.mk ((z47x8 : qb ≠ qw));have n8_:=Aside0.mk ((z47x7 : qw ≠ qb));have n9_:=Aside0.mk ((z47x11 : qm ≠ qw));have n10_:=Aside0.mk ((z47x9 : qw ≠ qm));clear HO_7;clear qg;clear qc;clear HB;have HO_7:=n0_;have qg:=n1_;have qc:=n2_;have HB:=n3_;have wa:=n4_;have qid:=n5_;have ju:=n6_;have wh:=n7_;have uh:=n8_;have wm:=n9_;have ug:=n10_;clear n0_ n1_ n2_ n3_ n4_ n5_ n6_ n7_ n8_ n9_ n10_;clear hb hbox hg;have qrm:=uh.out;have qre:=wh.out;have qrl:=ug.out;have qrd:=wm.out;have qmh : w34.cell? ⟨qw,0,none⟩ = some (.int .i64 0):=(blk_cell wa.out 0).trans rfl;have qmg : w34.cell? ⟨qw,1,none⟩ = some (.int .i64 0):=(blk_cell wa.out 1).trans rfl;have qmf : w34.cell? ⟨qw,2,none⟩ = some (.int .i64 0):=(blk_cell wa.out 2).trans rfl;have qme : w34.cell? ⟨qw,3,none⟩ = some (.int .i64 0):=(blk_cell wa.out 3).trans rfl;have qmd : w34.cell? ⟨qw,4,none⟩ = some (.int .i64 0):=(blk_cell wa.out 4).trans rfl;have qmc : w34.cell? ⟨qw,5,none⟩ = some (.int .i64 0):=(blk_cell wa.out 5).trans rfl;have qmb : w34.cell? ⟨qw,6,none⟩ = some (.int .i64 0):=(blk_cell wa.out 6).trans rfl;have qky:=blk_frozen wa.out 0;have qkx:=blk_frozen wa.out 1;have qkw:=blk_frozen wa.out 2;have qkv:=blk_frozen wa.out 3;have qku:=blk_frozen wa.out 4;have qkt:=blk_frozen wa.out 5;have qks:=blk_frozen wa.out 6;obtain ⟨qie,qdc,qpf⟩:=Kd.R_slice HO_7.out;subst qpf)|((with_reducible refine gate_callee (f:=100) rfl ?_);refine goesL_ (some 38) rfl rfl Try.func100 (by kernel_rfl) rfl #[.slice qie qh.length qdc,.agg #[.int .i64 wk,.int .i64 3,.int .i64 (wrap64 (1 + wl)),.int .i64 wu,.int .i64 (wrap64 (1 + wy)),.int .i64 0,.int .i64 0]] rfl (by (try simp only [List.map_toArray,List.map_cons,List.map_nil]);first|done|(simp only [ui];rfl)|rfl|(simp only [List.length_drop,List.length_take];rfl)) ?_;(with_reducible refine (spec_l3Among.calls k1 _ _ qh wk 3 (wrap64 (1 + wl)) wu (wrap64 (1 + wy)) 0 0 false _ ?side1 ?side2 A17.out).mono ?_);(case side1=>refine (Kd.R_reads' (e:=41) (base:=w.heap.size) (ok:=fun k_=>(k_ ≠ qb ∧ k_ ≠ qw)) (n:=qh.length) (c:=qdc) ?_).2.2;exact z47x5);(case side2=>exact (Kd.R_reads' HO_7.out).2.1);rintro e w39 ⟨rfl,hb⟩; refine ⟨_,rfl,?_⟩; have n0_:=Aside0.mk (Kd.R_below z47x5 hb);have n1_:=Aside0.mk (blk_below (g:=qb) (o:=.cells #[.int .i64 0,.int .i64 0,.int .i64 0,.int .i64 0,.int .i64 0,.int .i64 0,.int .i64 0] 41 (0,0)) z47x3 hb);have n2_:=Aside0.mk (IsS158.below (show IsS158 w (((((((w34.setCell ⟨qw,0,none⟩ (.int .i64 wk)).setCell ⟨qw,1,none⟩ (.int .i64 3)).setCell ⟨qw,2,none⟩ (.int .i64 (wrap64 (1 + wl)))).setCell ⟨qw,3,none⟩ (.int .i64 wu)).setCell ⟨qw,4,none⟩ (.int .i64 (wrap64 (1 + wy)))).setCell ⟨qw,5,none⟩ (.int .i64 0)).setCell ⟨qw,6,none⟩ (.int .i64 0)) qm qj uf from by repeat (first|(with_reducible first|exact qc.out|apply IsS158.alloc|apply IsS158.drewN|apply IsS158.drew|apply IsS158.set_1|refine IsS158.far ?_ qf.out _|refine IsS158.far ?_ wm.out _)|exact qc.out)) hb);have n3_:=Aside0.mk (blk_below (g:=qw) (o:=.cells #[.int .i64 wk,.int .i64 3,.int .i64 (wrap64 (1 + wl)),.int .i64 wu,.int .i64 (wrap64 (1 + wy)),.int .i64 0,.int .i64 0] 41 (0,0)) z47x0 hb);have n4_:=Aside0.mk (below_step z47x13 hb);clear HO_7;clear qg;clear qc;clear wa;clear HB;have HO_7:=n0_;have qg:=n1_;have qc:=n2_;have wa:=n3_;have HB:=n4_;clear n0_ n1_ n2_ n3_ n4_;(try clear hb);(try clear hb2);(try clear hk);(try clear hi);have qma : w39.cell? ⟨qw,0,none⟩ = some (.int .i64 wk):=(blk_cell wa.out 0).trans rfl;have qlz : w39.cell? ⟨qw,1,none⟩ = some (.int .i64 3):=(blk_cell wa.out 1).trans rfl;have qly : w39.cell? ⟨qw,2,none⟩ = some (.int .i64 (wrap64 (1 + wl))):=(blk_cell wa.out 2).trans rfl;have qlx : w39.cell? ⟨qw,3,none⟩ = some (.int .i64 wu):=(blk_cell wa.out 3).trans rfl;have qlw : w39.cell? ⟨qw,4,none⟩ = some (.int .i64 (wrap64 (1 + wy))):=(blk_cell wa.out 4).trans rfl;have qlv : w39.cell? ⟨qw,5,none⟩ = some (.int .i64 0):=(blk_cell wa.out 5).trans rfl;have qlu : w39.cell? ⟨qw,6,none⟩ = some (.int .i64 0):=(blk_cell wa.out 6).trans rfl;have qkr:=blk_frozen wa.out 0;have qkq:=blk_frozen wa.out 1;have qkp:=blk_frozen wa.out 2;have qko:=blk_frozen wa.out 3;have qkn:=blk_frozen wa.out 4;have qkm:=blk_frozen wa.out 5;have qkl:=blk_frozen wa.out 6)|((with_reducible refine gate_builtin (b:=.append) (xs:=#[.tmp 40,.tmp 42]) rfl ?_);at_builtin;refine Kd.R_append k41 (w0:=w) w.heap.size rfl (.tmp 40) (.tmp 42) 32 41 (.agg #[(.int .i64 0),(.int .i64 0),(.int .i64 0),(.int .i64 0),(.int .i64 0),(.int .i64 0),(.int .i64 0)]) 56 rfl Try.underlying32 info41 rfl (by decide) (by omega) (.slice qie qh.length qdc) qh (⟨wk,3,wrap64 (1 + wl),wu,wrap64 (1 + wy),0,0⟩ : S41) [.int .i64 wk,.int .i64 3,.int .i64 (wrap64 (1 + wl)),.int .i64 wu,.int .i64 (wrap64 (1 + wy)),.int .i64 0,.int .i64 0] (fun k_=>k_ ≠ qb ∧ k_ ≠ qw) (fun _=>False) rfl rfl ?aP (fun _ hk=>hk.elim) ?aF ?aO ?aB ?aS ?aL ?_;(case aP=>exact k41_mkM _ _ _ (⟨wk,3,wrap64 (1 + wl),wu,wrap64 (1 + wy),0,0⟩ : S41));(case aB=>exact z47x13);(case aF=>exact (fun k_ hk=>⟨Kd.freshB (g:=qb) (o:=.cells #[.int .i64 0,.int .i64 0,.int .i64 0,.int .i64 0,.int .i64 0,.int .i64 0,.int .i64 0] 41 (0,0)) z47x21 k_ hk,Kd.freshB (g:=qw) (o:=.cells #[.int .i64 wk,.int .i64 3,.int .i64 (wrap64 (1 + wl)),.int .i64 wu,.int .i64 (wrap64 (1 + wy)),.int .i64 0,.int .i64 0] 41 (0,0)) (by (with_reducible repeat (first|refine blk_drewN ?_ _|refine blk_drew ?_|refine blk_alloc ?_ _));exact wa.out) k_ hk⟩));(case aO=>exact z47x23);(case aS=>exact (below_size z47x13));(case aL=>have:=qia.out;omega);intro qto w41 ho hb hg hat;rw [← qhz.out] at ho;have n0_:=Aside0.mk (blk_grown (g:=qb) (o:=.cells #[.int .i64 0,.int .i64 0,.int .i64 0,.int .i64 0,.int .i64 0,.int .i64 0,.int .i64 0] 41 (0,0)) z47x21 hg (Kd.R_away HO_7.out (fun _ hk=>hk.1)));have n1_:=Aside0.mk (IsS158.grown (by repeat (first|(with_reducible first|exact qc.out|apply IsS158.alloc|apply IsS158.drewN|apply IsS158.drew|apply IsS158.set_1|refine IsS158.far ?_ qf.out _|refine IsS158.far ?_ wm.out _)|exact qc.out)) hg (IsS158.own_ne qc.out HO_7.out (by decide)));have n2_:=Aside0.mk (blk_grown (g:=qw) (o:=.cells #[.int .i64 wk,.int .i64 3,.int .i64 (wrap64 (1 + wl)),.int .i64 wu,.int .i64 (wrap64 (1 + wy)),.int .i64 0,.int .i64 0] 41 (0,0)) (by (with_reducible repeat (first|refine blk_drewN ?_ _|refine blk_drew ?_|refine blk_alloc ?_ _));exact wa.out) hg (Kd.R_away HO_7.out (fun _ hk=>hk.2)));have n3_:=Aside0.mk (hb);have n4_:=Aside0.mk (ho);clear qg;clear qc;clear wa;clear HB;clear HO_7;have qg:=n0_;have qc:=n1_;have wa:=n2_;have HB:=n3_;have qic:=n4_;clear n0_ n1_ n2_ n3_ n4_;clear ho hb hg hat))
     go_roundg k1
     case measure=>have:=HK1.out;omega
     case rel=>exact ⟨(qdk),(wrap64 (vo - 1)),(uf),(by first|rfl|(simp;done)|(simp [*];done)),H',⟨by have:=HK1.out;omega⟩,⟨by (with_reducible repeat (first|apply Kd.R_alloc|apply Kd.R_drewN|apply Kd.R_drew));exact Kd.R_mono qic.out (fun _ hk=>hk.1)⟩,⟨by (with_reducible repeat (first|refine blk_drewN ?_ _|refine blk_drew ?_|refine blk_alloc ?_ _));exact qg.out⟩,⟨by repeat (first|(with_reducible first|exact qc.out|apply IsS158.alloc|apply IsS158.drewN|apply IsS158.drew|apply IsS158.set_1|refine IsS158.far ?_ qf.out _|refine IsS158.far ?_ wm.out _)|exact qc.out)⟩,⟨by repeat (first|(with_reducible first|exact HB.out|apply below_alloc|apply pw_below_drewN|apply below_drew1|refine below_set ?_ (IsS158.ge qc.out)|refine below_set ?_ qq.out|refine below_set ?_ ju.out)|exact HB.out)⟩⟩
   ·rw [if_neg c11] at H
    have qhv : decide (0 < vo) = false:=decide_eq_false c11
    clear c11
    replace H:=Option.bind_eq_some_iff.mp H
    obtain ⟨⟨qu,vm⟩,qio,H⟩:=H
    replace H : ((spec_l6Rd_pick.f k1 qj vm 3).bind fun vw=>((spec_l6Rd_pick.f k1 qj vw.2 3).bind fun ws=>((spec_l6Rd_pick.f k1 qj ws.2 9).bind fun wg=>((spec_l6Rd_pick.f k1 qj wg.2 12).bind fun qp=>(if qp.1 = 0 then ((spec_l71Seal.f k1 qj qp.2).bind fun qy=>((spec_l6Rd_pick.f k1 qj qy.2.2.2.2.2.2.2 30).bind fun vk=>(some (qh,qy.1,qy.2.1,qy.2.2.1,qy.2.2.2.1,qy.2.2.2.2.1,qy.2.2.2.2.2.1,qy.2.2.2.2.2.2.1,wrap64 (qo + (wrap64 ((wrap64 (Int.tdiv vk.1 29)) * 100))))))) else (if qp.1 = 1 then (if (qh.length : Int) > 0 then ((spec_l6Rd_pick.f k1 qj qp.2 (qh.length : Int)).bind fun qr=>(if 0 ≤ qr.1 then (if qr.1 < (qh.length : Int) then ((spec_l6Rd_pick.f k1 qj qr.2 30).bind fun wz=>(some (qh,(rd_T41 qh qr.1).f0,(rd_T41 qh qr.1).f1,(rd_T41 qh qr.1).f2,(rd_T41 qh qr.1).f3,(rd_T41 qh qr.1).f4,(rd_T41 qh qr.1).f5,(rd_T41 qh qr.1).f6,wrap64 (qo + (wrap64 ((wrap64 (Int.tdiv wz.1 29)) * 100)))))) else (none)) else (none))) else ((spec_l6Rd_pick.f k1 qj qp.2 30).bind fun vv=>(some (qh,qu,3,wrap64 (1 + vw.1),mx (wrap64 (qo - ws.1)) 0,wrap64 (1 + wg.1),0,0,wrap64 (qo + (wrap64 ((wrap64 (Int.tdiv vv.1 29)) * 100))))))) else (if qp.1 = 2 then ((spec_l6Rd_pick.f k1 qj qp.2 30).bind fun vu=>(some (qh,qu,3,wrap64 (1 + vw.1),wrap64 (qo + 1),wrap64 (1 + wg.1),0,0,wrap64 (qo + (wrap64 ((wrap64 (Int.tdiv vu.1 29)) * 100)))))) else (if qp.1 = 3 then (spec_DrawCacheWith.l1 k1 qo qh qj qp.2 qu 3 (wrap64 (1 + vw.1)) (mx (wrap64 (qo - ws.1)) 0) (wrap64 (1 + wg.1)) 0 0) else (if qp.1 = 4 then ((spec_l71Seal.f k1 qj qp.2).bind fun qx=>(if qh.length < 2513169434916 then ((spec_l6Rd_pick.f k1 qj qx.2.2.2.2.2.2.2 30).bind fun wr=>(some ((qh ++ [(⟨qx.1,qx.2.1,qx.2.2.1,qx.2.2.2.1,qx.2.2.2.2.1,qx.2.2.2.2.2.1,qx.2.2.2.2.2.2.1⟩ : S41)]),qu,3,wrap64 (1 + vw.1),mx (wrap64 (qo - ws.1)) 0,wrap64 (1 + wg.1),0,0,wrap64 (qo + (wrap64 ((wrap64 (Int.tdiv wr.1 29)) * 100)))))) else (none))) else ((spec_l6Rd_pick.f k1 qj qp.2 30).bind fun vt=>(some (qh,qu,3,wrap64 (1 + vw.1),mx (wrap64 (qo - ws.1)) 0,wrap64 (1 + wg.1),0,0,wrap64 (qo + (wrap64 ((wrap64 (Int.tdiv vt.1 29)) * 100))))))))))))))) = some (r1,r2,r3,r4,r5,r6,r7,r8,r9):=H
    have A42:=Aside0.mk qio
    clear qio
    replace H:=Option.bind_eq_some_iff.mp H
    obtain ⟨⟨qv,vl⟩,qin,H⟩:=H
    replace H : ((spec_l6Rd_pick.f k1 qj vl 3).bind fun ws=>((spec_l6Rd_pick.f k1 qj ws.2 9).bind fun wg=>((spec_l6Rd_pick.f k1 qj wg.2 12).bind fun qp=>(if qp.1 = 0 then ((spec_l71Seal.f k1 qj qp.2).bind fun qy=>((spec_l6Rd_pick.f k1 qj qy.2.2.2.2.2.2.2 30).bind fun vk=>(some (qh,qy.1,qy.2.1,qy.2.2.1,qy.2.2.2.1,qy.2.2.2.2.1,qy.2.2.2.2.2.1,qy.2.2.2.2.2.2.1,wrap64 (qo + (wrap64 ((wrap64 (Int.tdiv vk.1 29)) * 100))))))) else (if qp.1 = 1 then (if (qh.length : Int) > 0 then ((spec_l6Rd_pick.f k1 qj qp.2 (qh.length : Int)).bind fun qr=>(if 0 ≤ qr.1 then (if qr.1 < (qh.length : Int) then ((spec_l6Rd_pick.f k1 qj qr.2 30).bind fun wz=>(some (qh,(rd_T41 qh qr.1).f0,(rd_T41 qh qr.1).f1,(rd_T41 qh qr.1).f2,(rd_T41 qh qr.1).f3,(rd_T41 qh qr.1).f4,(rd_T41 qh qr.1).f5,(rd_T41 qh qr.1).f6,wrap64 (qo + (wrap64 ((wrap64 (Int.tdiv wz.1 29)) * 100)))))) else (none)) else (none))) else ((spec_l6Rd_pick.f k1 qj qp.2 30).bind fun vv=>(some (qh,qu,3,wrap64 (1 + qv),mx (wrap64 (qo - ws.1)) 0,wrap64 (1 + wg.1),0,0,wrap64 (qo + (wrap64 ((wrap64 (Int.tdiv vv.1 29)) * 100))))))) else (if qp.1 = 2 then ((spec_l6Rd_pick.f k1 qj qp.2 30).bind fun vu=>(some (qh,qu,3,wrap64 (1 + qv),wrap64 (qo + 1),wrap64 (1 + wg.1),0,0,wrap64 (qo + (wrap64 ((wrap64 (Int.tdiv vu.1 29)) * 100)))))) else (if qp.1 = 3 then (spec_DrawCacheWith.l1 k1 qo qh qj qp.2 qu 3 (wrap64 (1 + qv)) (mx (wrap64 (qo - ws.1)) 0) (wrap64 (1 + wg.1)) 0 0) else (if qp.1 = 4 then ((spec_l71Seal.f k1 qj qp.2).bind fun qx=>(if qh.length < 2513169434916 then ((spec_l6Rd_pick.f k1 qj qx.2.2.2.2.2.2.2 30).bind fun wr=>(some ((qh ++ [(⟨qx.1,qx.2.1,qx.2.2.1,qx.2.2.2.1,qx.2.2.2.2.1,qx.2.2.2.2.2.1,qx.2.2.2.2.2.2.1⟩ : S41)]),qu,3,wrap64 (1 + qv),mx (wrap64 (qo - ws.1)) 0,wrap64 (1 + wg.1),0,0,wrap64 (qo + (wrap64 ((wrap64 (Int.tdiv wr.1 29)) * 100)))))) else (none))) else ((spec_l6Rd_pick.f k1 qj qp.2 30).bind fun vt=>(some (qh,qu,3,wrap64 (1 + qv),mx (wrap64 (qo - ws.1)) 0,wrap64 (1 + wg.1),0,0,wrap64 (qo + (wrap64 ((wrap64 (Int.tdiv vt.1 29)) * 100)))))))))))))) = some (r1,r2,r3,r4,r5,r6,r7,r8,r9):=H
    have A43:=Aside0.mk qin
    clear qin
    replace H:=Option.bind_eq_some_iff.mp H
    obtain ⟨⟨ub,wx⟩,qim,H⟩:=H
    replace H : ((spec_l6Rd_pick.f k1 qj wx 9).bind fun wg=>((spec_l6Rd_pick.f k1 qj wg.2 12).bind fun qp=>(if qp.1 = 0 then ((spec_l71Seal.f k1 qj qp.2).bind fun qy=>((spec_l6Rd_pick.f k1 qj qy.2.2.2.2.2.2.2 30).bind fun vk=>(some (qh,qy.1,qy.2.1,qy.2.2.1,qy.2.2.2.1,qy.2.2.2.2.1,qy.2.2.2.2.2.1,qy.2.2.2.2.2.2.1,wrap64 (qo + (wrap64 ((wrap64 (Int.tdiv vk.1 29)) * 100))))))) else (if qp.1 = 1 then (if (qh.length : Int) > 0 then ((spec_l6Rd_pick.f k1 qj qp.2 (qh.length : Int)).bind fun qr=>(if 0 ≤ qr.1 then (if qr.1 < (qh.length : Int) then ((spec_l6Rd_pick.f k1 qj qr.2 30).bind fun wz=>(some (qh,(rd_T41 qh qr.1).f0,(rd_T41 qh qr.1).f1,(rd_T41 qh qr.1).f2,(rd_T41 qh qr.1).f3,(rd_T41 qh qr.1).f4,(rd_T41 qh qr.1).f5,(rd_T41 qh qr.1).f6,wrap64 (qo + (wrap64 ((wrap64 (Int.tdiv wz.1 29)) * 100)))))) else (none)) else (none))) else ((spec_l6Rd_pick.f k1 qj qp.2 30).bind fun vv=>(some (qh,qu,3,wrap64 (1 + qv),mx (wrap64 (qo - ub)) 0,wrap64 (1 + wg.1),0,0,wrap64 (qo + (wrap64 ((wrap64 (Int.tdiv vv.1 29)) * 100))))))) else (if qp.1 = 2 then ((spec_l6Rd_pick.f k1 qj qp.2 30).bind fun vu=>(some (qh,qu,3,wrap64 (1 + qv),wrap64 (qo + 1),wrap64 (1 + wg.1),0,0,wrap64 (qo + (wrap64 ((wrap64 (Int.tdiv vu.1 29)) * 100)))))) else (if qp.1 = 3 then (spec_DrawCacheWith.l1 k1 qo qh qj qp.2 qu 3 (wrap64 (1 + qv)) (mx (wrap64 (qo - ub)) 0) (wrap64 (1 + wg.1)) 0 0) else (if qp.1 = 4 then ((spec_l71Seal.f k1 qj qp.2).bind fun qx=>(if qh.length < 2513169434916 then ((spec_l6Rd_pick.f k1 qj qx.2.2.2.2.2.2.2 30).bind fun wr=>(some ((qh ++ [(⟨qx.1,qx.2.1,qx.2.2.1,qx.2.2.2.1,qx.2.2.2.2.1,qx.2.2.2.2.2.1,qx.2.2.2.2.2.2.1⟩ : S41)]),qu,3,wrap64 (1 + qv),mx (wrap64 (qo - ub)) 0,wrap64 (1 + wg.1),0,0,wrap64 (qo + (wrap64 ((wrap64 (Int.tdiv wr.1 29)) * 100)))))) else (none))) else ((spec_l6Rd_pick.f k1 qj qp.2 30).bind fun vt=>(some (qh,qu,3,wrap64 (1 + qv),mx (wrap64 (qo - ub)) 0,wrap64 (1 + wg.1),0,0,wrap64 (qo + (wrap64 ((wrap64 (Int.tdiv vt.1 29)) * 100))))))))))))) = some (r1,r2,r3,r4,r5,r6,r7,r8,r9):=H
    have A44:=Aside0.mk qim
    clear qim
    obtain ⟨wc,vr⟩ : ∃ j_ : Int,(mx (wrap64 (qo - ub)) 0) = j_:=⟨_,rfl⟩
    replace H : ((spec_l6Rd_pick.f k1 qj wx 9).bind fun wg=>((spec_l6Rd_pick.f k1 qj wg.2 12).bind fun qp=>(if qp.1 = 0 then ((spec_l71Seal.f k1 qj qp.2).bind fun qy=>((spec_l6Rd_pick.f k1 qj qy.2.2.2.2.2.2.2 30).bind fun vk=>(some (qh,qy.1,qy.2.1,qy.2.2.1,qy.2.2.2.1,qy.2.2.2.2.1,qy.2.2.2.2.2.1,qy.2.2.2.2.2.2.1,wrap64 (qo + (wrap64 ((wrap64 (Int.tdiv vk.1 29)) * 100))))))) else (if qp.1 = 1 then (if (qh.length : Int) > 0 then ((spec_l6Rd_pick.f k1 qj qp.2 (qh.length : Int)).bind fun qr=>(if 0 ≤ qr.1 then (if qr.1 < (qh.length : Int) then ((spec_l6Rd_pick.f k1 qj qr.2 30).bind fun wz=>(some (qh,(rd_T41 qh qr.1).f0,(rd_T41 qh qr.1).f1,(rd_T41 qh qr.1).f2,(rd_T41 qh qr.1).f3,(rd_T41 qh qr.1).f4,(rd_T41 qh qr.1).f5,(rd_T41 qh qr.1).f6,wrap64 (qo + (wrap64 ((wrap64 (Int.tdiv wz.1 29)) * 100)))))) else (none)) else (none))) else ((spec_l6Rd_pick.f k1 qj qp.2 30).bind fun vv=>(some (qh,qu,3,wrap64 (1 + qv),wc,wrap64 (1 + wg.1),0,0,wrap64 (qo + (wrap64 ((wrap64 (Int.tdiv vv.1 29)) * 100))))))) else (if qp.1 = 2 then ((spec_l6Rd_pick.f k1 qj qp.2 30).bind fun vu=>(some (qh,qu,3,wrap64 (1 + qv),wrap64 (qo + 1),wrap64 (1 + wg.1),0,0,wrap64 (qo + (wrap64 ((wrap64 (Int.tdiv vu.1 29)) * 100)))))) else (if qp.1 = 3 then (spec_DrawCacheWith.l1 k1 qo qh qj qp.2 qu 3 (wrap64 (1 + qv)) wc (wrap64 (1 + wg.1)) 0 0) else (if qp.1 = 4 then ((spec_l71Seal.f k1 qj qp.2).bind fun qx=>(if qh.length < 2513169434916 then ((spec_l6Rd_pick.f k1 qj qx.2.2.2.2.2.2.2 30).bind fun wr=>(some ((qh ++ [(⟨qx.1,qx.2.1,qx.2.2.1,qx.2.2.2.1,qx.2.2.2.2.1,qx.2.2.2.2.2.1,qx.2.2.2.2.2.2.1⟩ : S41)]),qu,3,wrap64 (1 + qv),wc,wrap64 (1 + wg.1),0,0,wrap64 (qo + (wrap64 ((wrap64 (Int.tdiv wr.1 29)) * 100)))))) else (none))) else ((spec_l6Rd_pick.f k1 qj qp.2 30).bind fun vt=>(some (qh,qu,3,wrap64 (1 + qv),wc,wrap64 (1 + wg.1),0,0,wrap64 (qo + (wrap64 ((wrap64 (Int.tdiv vt.1 29)) * 100))))))))))))) = some (r1,r2,r3,r4,r5,r6,r7,r8,r9):=by first|(rw [vr] at H;exact H)|(simp only [vr] at H ⊢; exact H)
    (try rw [vr] at A42)
    (try rw [vr] at A43)
    (try rw [vr] at A44)
    have hji45_ : (if (wrap64 (qo - ub)) < 0 then 0 else (wrap64 (qo - ub))) = wc:=vr
    replace H:=Option.bind_eq_some_iff.mp H
    obtain ⟨⟨qz,wv⟩,qil,H⟩:=H
    replace H : ((spec_l6Rd_pick.f k1 qj wv 12).bind fun qp=>(if qp.1 = 0 then ((spec_l71Seal.f k1 qj qp.2).bind fun qy=>((spec_l6Rd_pick.f k1 qj qy.2.2.2.2.2.2.2 30).bind fun vk=>(some (qh,qy.1,qy.2.1,qy.2.2.1,qy.2.2.2.1,qy.2.2.2.2.1,qy.2.2.2.2.2.1,qy.2.2.2.2.2.2.1,wrap64 (qo + (wrap64 ((wrap64 (Int.tdiv vk.1 29)) * 100))))))) else (if qp.1 = 1 then (if (qh.length : Int) > 0 then ((spec_l6Rd_pick.f k1 qj qp.2 (qh.length : Int)).bind fun qr=>(if 0 ≤ qr.1 then (if qr.1 < (qh.length : Int) then ((spec_l6Rd_pick.f k1 qj qr.2 30).bind fun wz=>(some (qh,(rd_T41 qh qr.1).f0,(rd_T41 qh qr.1).f1,(rd_T41 qh qr.1).f2,(rd_T41 qh qr.1).f3,(rd_T41 qh qr.1).f4,(rd_T41 qh qr.1).f5,(rd_T41 qh qr.1).f6,wrap64 (qo + (wrap64 ((wrap64 (Int.tdiv wz.1 29)) * 100)))))) else (none)) else (none))) else ((spec_l6Rd_pick.f k1 qj qp.2 30).bind fun vv=>(some (qh,qu,3,wrap64 (1 + qv),wc,wrap64 (1 + qz),0,0,wrap64 (qo + (wrap64 ((wrap64 (Int.tdiv vv.1 29)) * 100))))))) else (if qp.1 = 2 then ((spec_l6Rd_pick.f k1 qj qp.2 30).bind fun vu=>(some (qh,qu,3,wrap64 (1 + qv),wrap64 (qo + 1),wrap64 (1 + qz),0,0,wrap64 (qo + (wrap64 ((wrap64 (Int.tdiv vu.1 29)) * 100)))))) else (if qp.1 = 3 then (spec_DrawCacheWith.l1 k1 qo qh qj qp.2 qu 3 (wrap64 (1 + qv)) wc (wrap64 (1 + qz)) 0 0) else (if qp.1 = 4 then ((spec_l71Seal.f k1 qj qp.2).bind fun qx=>(if qh.length < 2513169434916 then ((spec_l6Rd_pick.f k1 qj qx.2.2.2.2.2.2.2 30).bind fun wr=>(some ((qh ++ [(⟨qx.1,qx.2.1,qx.2.2.1,qx.2.2.2.1,qx.2.2.2.2.1,qx.2.2.2.2.2.1,qx.2.2.2.2.2.2.1⟩ : S41)]),qu,3,wrap64 (1 + qv),wc,wrap64 (1 + qz),0,0,wrap64 (qo + (wrap64 ((wrap64 (Int.tdiv wr.1 29)) * 100)))))) else (none))) else ((spec_l6Rd_pick.f k1 qj qp.2 30).bind fun vt=>(some (qh,qu,3,wrap64 (1 + qv),wc,wrap64 (1 + qz),0,0,wrap64 (qo + (wrap64 ((wrap64 (Int.tdiv vt.1 29)) * 100)))))))))))) = some (r1,r2,r3,r4,r5,r6,r7,r8,r9):=H
    have A46:=Aside0.mk qil
    clear qil
    replace H:=Option.bind_eq_some_iff.mp H
    obtain ⟨⟨wi,wn⟩,qik,H⟩:=H
    replace H : (if wi = 0 then ((spec_l71Seal.f k1 qj wn).bind fun qy=>((spec_l6Rd_pick.f k1 qj qy.2.2.2.2.2.2.2 30).bind fun vk=>(some (qh,qy.1,qy.2.1,qy.2.2.1,qy.2.2.2.1,qy.2.2.2.2.1,qy.2.2.2.2.2.1,qy.2.2.2.2.2.2.1,wrap64 (qo + (wrap64 ((wrap64 (Int.tdiv vk.1 29)) * 100))))))) else (if wi = 1 then (if (qh.length : Int) > 0 then ((spec_l6Rd_pick.f k1 qj wn (qh.length : Int)).bind fun qr=>(if 0 ≤ qr.1 then (if qr.1 < (qh.length : Int) then ((spec_l6Rd_pick.f k1 qj qr.2 30).bind fun wz=>(some (qh,(rd_T41 qh qr.1).f0,(rd_T41 qh qr.1).f1,(rd_T41 qh qr.1).f2,(rd_T41 qh qr.1).f3,(rd_T41 qh qr.1).f4,(rd_T41 qh qr.1).f5,(rd_T41 qh qr.1).f6,wrap64 (qo + (wrap64 ((wrap64 (Int.tdiv wz.1 29)) * 100)))))) else (none)) else (none))) else ((spec_l6Rd_pick.f k1 qj wn 30).bind fun vv=>(some (qh,qu,3,wrap64 (1 + qv),wc,wrap64 (1 + qz),0,0,wrap64 (qo + (wrap64 ((wrap64 (Int.tdiv vv.1 29)) * 100))))))) else (if wi = 2 then ((spec_l6Rd_pick.f k1 qj wn 30).bind fun vu=>(some (qh,qu,3,wrap64 (1 + qv),wrap64 (qo + 1),wrap64 (1 + qz),0,0,wrap64 (qo + (wrap64 ((wrap64 (Int.tdiv vu.1 29)) * 100)))))) else (if wi = 3 then (spec_DrawCacheWith.l1 k1 qo qh qj wn qu 3 (wrap64 (1 + qv)) wc (wrap64 (1 + qz)) 0 0) else (if wi = 4 then ((spec_l71Seal.f k1 qj wn).bind fun qx=>(if qh.length < 2513169434916 then ((spec_l6Rd_pick.f k1 qj qx.2.2.2.2.2.2.2 30).bind fun wr=>(some ((qh ++ [(⟨qx.1,qx.2.1,qx.2.2.1,qx.2.2.2.1,qx.2.2.2.2.1,qx.2.2.2.2.2.1,qx.2.2.2.2.2.2.1⟩ : S41)]),qu,3,wrap64 (1 + qv),wc,wrap64 (1 + qz),0,0,wrap64 (qo + (wrap64 ((wrap64 (Int.tdiv wr.1 29)) * 100)))))) else (none))) else ((spec_l6Rd_pick.f k1 qj wn 30).bind fun vt=>(some (qh,qu,3,wrap64 (1 + qv),wc,wrap64 (1 + qz),0,0,wrap64 (qo + (wrap64 ((wrap64 (Int.tdiv vt.1 29)) * 100))))))))))) = some (r1,r2,r3,r4,r5,r6,r7,r8,r9):=H
    have A47:=Aside0.mk qik
    clear qik
    by_cases c48 : wi = 0
    ·rw [if_pos c48] at H
     have qhu : (wi == 0) = true:=beq_iff_eq.mpr c48
     have qht : (wi != 0) = false:=bne_eq_false_iff_eq.mpr c48
     clear c48
     replace H:=Option.bind_eq_some_iff.mp H
     obtain ⟨⟨wq,wt,ww,vp,vx,vy,ua,gi⟩,qij,H⟩:=H
     replace H : ((spec_l6Rd_pick.f k1 qj gi 30).bind fun vk=>(some (qh,wq,wt,ww,vp,vx,vy,ua,wrap64 (qo + (wrap64 ((wrap64 (Int.tdiv vk.1 29)) * 100)))))) = some (r1,r2,r3,r4,r5,r6,r7,r8,r9):=H
     have A49:=Aside0.mk qij
     clear qij
     replace H:=Option.bind_eq_some_iff.mp H
     obtain ⟨⟨qdr,qna⟩,qii,H⟩:=H
     replace H : (some (qh,wq,wt,ww,vp,vx,vy,ua,wrap64 (qo + (wrap64 ((wrap64 (Int.tdiv qdr 29)) * 100))))) = some (r1,r2,r3,r4,r5,r6,r7,r8,r9):=H
     have A50:=Aside0.mk qii
     clear qii
     simp only [Option.some.injEq,Prod.mk.injEq] at H
     obtain ⟨rfl,rfl,rfl,rfl,rfl,rfl,rfl,rfl,rfl⟩:=H
     try go_wp2_with (first|((with_reducible refine gate_callee (f:=99) rfl ?_);refine goesL_ (some 45) rfl rfl Try.func99 (by kernel_rfl) rfl #[.pointer (some ⟨qm,0,none⟩)] rfl z47x19 ?_;(with_reducible refine (spec_l71Key.calls k1 qm qj wb qu vm w _ ?side1 ?side2 A42.out).mono ?_);(case side1=>repeat (first|(with_reducible first|exact qc.out|apply IsS158.alloc|apply IsS158.drewN|apply IsS158.drew|apply IsS158.set_1|refine IsS158.far ?_ qf.out _)|exact qc.out));(case side2=>repeat (first|(with_reducible first|exact HB.out|apply below_alloc|apply pw_below_drewN|apply below_drew1|refine below_set ?_ (IsS158.ge qc.out)|refine below_set ?_ qq.out)|exact HB.out));rintro e w51 ⟨rfl,hi,hb,hk⟩; refine ⟨_,rfl,?_⟩; have n0_:=Aside0.mk (Kd.R_mono (Kd.R_keep (IsS158.apart (show IsS158 w _ qm qj wb from by repeat (first|(with_reducible first|exact qc.out|apply IsS158.alloc|apply IsS158.drewN|apply IsS158.drew|apply IsS158.set_1|refine IsS158.far ?_ qf.out _)|exact qc.out)) z47x23 (by decide)) hk (fun _ h=>h.2)) (fun _ h=>h.1));have n1_:=Aside0.mk (KeepBut.blk hk (g':=qb) (o:=.cells #[.int .i64 0,.int .i64 0,.int .i64 0,.int .i64 0,.int .i64 0,.int .i64 0,.int .i64 0] 41 (0,0)) z47x21 ql.out (by simp));have n2_:=Aside0.mk (hb);have n3_:=Aside0.mk (hi);clear HO_7;clear qg;clear HB;clear qc;have HO_7:=n0_;have qg:=n1_;have HB:=n2_;have qc:=n3_;clear n0_ n1_ n2_ n3_;(try clear hb);(try clear hb2);(try clear hk);(try clear hi))|((with_reducible refine gate_callee (f:=70) rfl ?_);refine goesL_ (some 47) rfl rfl Try.func70 (by kernel_rfl) rfl #[.pointer (some ⟨qm,0,none⟩),.int .i64 3] rfl z47x19 ?_;(with_reducible refine (spec_l6Rd_pick.calls k1 qm qj vm 3 qv vl w _ ?side1 ?side2 A43.out).mono ?_);(case side1=>repeat (first|(with_reducible first|exact qc.out|apply IsS158.alloc|apply IsS158.drewN|apply IsS158.drew|apply IsS158.set_1|refine IsS158.far ?_ qf.out _)|exact qc.out));(case side2=>repeat (first|(with_reducible first|exact HB.out|apply below_alloc|apply pw_below_drewN|apply below_drew1|refine below_set ?_ (IsS158.ge qc.out)|refine below_set ?_ qq.out)|exact HB.out));rintro e w52 ⟨rfl,hi,hb,hk⟩; refine ⟨_,rfl,?_⟩; have n0_:=Aside0.mk (Kd.R_mono (Kd.R_keep (IsS158.apart (show IsS158 w _ qm qj vm from by repeat (first|(with_reducible first|exact qc.out|apply IsS158.alloc|apply IsS158.drewN|apply IsS158.drew|apply IsS158.set_1|refine IsS158.far ?_ qf.out _)|exact qc.out)) z47x23 (by decide)) hk (fun _ h=>h.2)) (fun _ h=>h.1));have n1_:=Aside0.mk (KeepBut.blk hk (g':=qb) (o:=.cells #[.int .i64 0,.int .i64 0,.int .i64 0,.int .i64 0,.int .i64 0,.int .i64 0,.int .i64 0] 41 (0,0)) z47x21 ql.out (by simp));have n2_:=Aside0.mk (hb);have n3_:=Aside0.mk (hi);clear HO_7;clear qg;clear HB;clear qc;have HO_7:=n0_;have qg:=n1_;have HB:=n2_;have qc:=n3_;clear n0_ n1_ n2_ n3_;(try clear hb);(try clear hb2);(try clear hk);(try clear hi))|((with_reducible refine gate_callee (f:=70) rfl ?_);refine goesL_ (some 51) rfl rfl Try.func70 (by kernel_rfl) rfl #[.pointer (some ⟨qm,0,none⟩),.int .i64 3] rfl z47x19 ?_;(with_reducible refine (spec_l6Rd_pick.calls k1 qm qj vl 3 ub wx w _ ?side1 ?side2 A44.out).mono ?_);(case side1=>repeat (first|(with_reducible first|exact qc.out|apply IsS158.alloc|apply IsS158.drewN|apply IsS158.drew|apply IsS158.set_1|refine IsS158.far ?_ qf.out _)|exact qc.out));(case side2=>repeat (first|(with_reducible first|exact HB.out|apply below_alloc|apply pw_below_drewN|apply below_drew1|refine below_set ?_ (IsS158.ge qc.out)|refine below_set ?_ qq.out)|exact HB.out));rintro e w53 ⟨rfl,hi,hb,hk⟩; refine ⟨_,rfl,?_⟩; have n0_:=Aside0.mk (Kd.R_mono (Kd.R_keep (IsS158.apart (show IsS158 w _ qm qj vl from by repeat (first|(with_reducible first|exact qc.out|apply IsS158.alloc|apply IsS158.drewN|apply IsS158.drew|apply IsS158.set_1|refine IsS158.far ?_ qf.out _)|exact qc.out)) z47x23 (by decide)) hk (fun _ h=>h.2)) (fun _ h=>h.1));have n1_:=Aside0.mk (KeepBut.blk hk (g':=qb) (o:=.cells #[.int .i64 0,.int .i64 0,.int .i64 0,.int .i64 0,.int .i64 0,.int .i64 0,.int .i64 0] 41 (0,0)) z47x21 ql.out (by simp));have n2_:=Aside0.mk (hb);have n3_:=Aside0.mk (hi);clear HO_7;clear qg;clear HB;clear qc;have HO_7:=n0_;have qg:=n1_;have HB:=n2_;have qc:=n3_;clear n0_ n1_ n2_ n3_;(try clear hb);(try clear hb2);(try clear hk);(try clear hi))|((with_reducible refine gate_callee (f:=70) rfl ?_);refine goesL_ (some 55) rfl rfl Try.func70 (by kernel_rfl) rfl #[.pointer (some ⟨qm,0,none⟩),.int .i64 9] rfl z47x19 ?_;(with_reducible refine (spec_l6Rd_pick.calls k1 qm qj wx 9 qz wv w _ ?side1 ?side2 A46.out).mono ?_);(case side1=>repeat (first|(with_reducible first|exact qc.out|apply IsS158.alloc|apply IsS158.drewN|apply IsS158.drew|apply IsS158.set_1|refine IsS158.far ?_ qf.out _)|exact qc.out));(case side2=>repeat (first|(with_reducible first|exact HB.out|apply below_alloc|apply pw_below_drewN|apply below_drew1|refine below_set ?_ (IsS158.ge qc.out)|refine below_set ?_ qq.out)|exact HB.out));rintro e w54 ⟨rfl,hi,hb,hk⟩; refine ⟨_,rfl,?_⟩; have n0_:=Aside0.mk (Kd.R_mono (Kd.R_keep (IsS158.apart (show IsS158 w _ qm qj wx from by repeat (first|(with_reducible first|exact qc.out|apply IsS158.alloc|apply IsS158.drewN|apply IsS158.drew|apply IsS158.set_1|refine IsS158.far ?_ qf.out _)|exact qc.out)) z47x23 (by decide)) hk (fun _ h=>h.2)) (fun _ h=>h.1));have n1_:=Aside0.mk (KeepBut.blk hk (g':=qb) (o:=.cells #[.int .i64 0,.int .i64 0,.int .i64 0,.int .i64 0,.int .i64 0,.int .i64 0,.int .i64 0] 41 (0,0)) z47x21 ql.out (by simp));have n2_:=Aside0.mk (hb);have n3_:=Aside0.mk (hi);clear HO_7;clear qg;clear HB;clear qc;have HO_7:=n0_;have qg:=n1_;have HB:=n2_;have qc:=n3_;clear n0_ n1_ n2_ n3_;(try clear hb);(try clear hb2);(try clear hk);(try clear hi))|((with_reducible refine gate_dst (N:=10) rfl ?_);refine box_event ?hg (N:=10) ?hd (cs:=#[.int .i64 0,.int .i64 0,.int .i64 0,.int .i64 0,.int .i64 0,.int .i64 0,.int .i64 0]) (t:=41) ?hr ?_;(case hd=>rfl);(case hg=>rfl);(case hr=>first|(go_simp;done)|(go_simp;rfl));intro qe hg w55 hbox hb;have n0_:=Aside0.mk (Kd.R_below (Kd.R_elderB z47x23 qe (Nat.le_of_eq hg.symm)) hb);have n1_:=Aside0.mk (blk_below (g:=qb) (o:=.cells #[.int .i64 0,.int .i64 0,.int .i64 0,.int .i64 0,.int .i64 0,.int .i64 0,.int .i64 0] 41 (0,0)) z47x21 hb);have n2_:=Aside0.mk (IsS158.below z47x18 hb);have n3_:=Aside0.mk (below_step z47x17 hb);have n4_:=Aside0.mk (hbox);have n5_:=Aside0.mk ((z47x15 : w.heap.size ≤ qe));have n6_:=Aside0.mk ((z47x15 : w.heap.size ≤ qe));have n7_:=Aside0.mk ((z47x8 : qb ≠ qe));have n8_:=Aside0.mk ((z47x7 : qe ≠ qb));have n9_:=Aside0.mk ((z47x12 : qm ≠ qe));have n10_:=Aside0.mk ((z47x10 : qe ≠ qm));clear HO_7;clear qg;clear qc;clear HB;have HO_7:=n0_;have qg:=n1_;have qc:=n2_;have HB:=n3_;have qd:=n4_;have uo:=n5_;have we:=n6_;have qi:=n7_;have qa:=n8_;have qk:=n9_;have qt:=n10_;clear n0_ n1_ n2_ n3_ n4_ n5_ n6_ n7_ n8_ n9_ n10_;clear hb hbox hg;have qrk:=qa.out;have qrc:=qi.out;have qrj:=qt.out;have qrb:=qk.out;have qlt : w55.cell? ⟨qe,0,none⟩ = some (.int .i64 0):=(blk_cell qd.out 0).trans rfl;have qls : w55.cell? ⟨qe,1,none⟩ = some (.int .i64 0):=(blk_cell qd.out 1).trans rfl;have qlr : w55.cell? ⟨qe,2,none⟩ = some (.int .i64 0):=(blk_cell qd.out 2).trans rfl;have qlq : w55.cell? ⟨qe,3,none⟩ = some (.int .i64 0):=(blk_cell qd.out 3).trans rfl;have qlp : w55.cell? ⟨qe,4,none⟩ = some (.int .i64 0):=(blk_cell qd.out 4).trans rfl;have qlo : w55.cell? ⟨qe,5,none⟩ = some (.int .i64 0):=(blk_cell qd.out 5).trans rfl;have qln : w55.cell? ⟨qe,6,none⟩ = some (.int .i64 0):=(blk_cell qd.out 6).trans rfl;have qkk:=blk_frozen qd.out 0;have qkj:=blk_frozen qd.out 1;have qki:=blk_frozen qd.out 2;have qkh:=blk_frozen qd.out 3;have qkg:=blk_frozen qd.out 4;have qkf:=blk_frozen qd.out 5;have qke:=blk_frozen qd.out 6)|((with_reducible refine gate_callee (f:=70) rfl ?_);refine goesL_ (some 59) rfl rfl Try.func70 (by kernel_rfl) rfl #[.pointer (some ⟨qm,0,none⟩),.int .i64 12] rfl z47x19 ?_;(with_reducible refine (spec_l6Rd_pick.calls k1 qm qj wv 12 wi wn w _ ?side1 ?side2 A47.out).mono ?_);(case side1=>repeat (first|(with_reducible first|exact qc.out|apply IsS158.alloc|apply IsS158.drewN|apply IsS158.drew|apply IsS158.set_1|refine IsS158.far ?_ qf.out _|refine IsS158.far ?_ qk.out _)|exact qc.out));(case side2=>repeat (first|(with_reducible first|exact HB.out|apply below_alloc|apply pw_below_drewN|apply below_drew1|refine below_set ?_ (IsS158.ge qc.out)|refine below_set ?_ qq.out|refine below_set ?_ we.out)|exact HB.out));rintro e w59 ⟨rfl,hi,hb,hk⟩; refine ⟨_,rfl,?_⟩; have n0_:=Aside0.mk (Kd.R_mono (Kd.R_keep (IsS158.apart (show IsS158 w _ qm qj wv from by repeat (first|(with_reducible first|exact qc.out|apply IsS158.alloc|apply IsS158.drewN|apply IsS158.drew|apply IsS158.set_1|refine IsS158.far ?_ qf.out _|refine IsS158.far ?_ qk.out _)|exact qc.out)) z47x6 (by decide)) hk (fun _ h=>h.2)) (fun _ h=>h.1));have n1_:=Aside0.mk (KeepBut.blk hk (g':=qb) (o:=.cells #[.int .i64 0,.int .i64 0,.int .i64 0,.int .i64 0,.int .i64 0,.int .i64 0,.int .i64 0] 41 (0,0)) z47x4 ql.out (by simp));have n2_:=Aside0.mk (KeepBut.blk hk (g':=qe) (o:=.cells #[.int .i64 qu,.int .i64 3,.int .i64 (wrap64 (1 + qv)),.int .i64 wc,.int .i64 (wrap64 (1 + qz)),.int .i64 0,.int .i64 0] 41 (0,0)) z47x2 qt.out (by simp));have n3_:=Aside0.mk (hb);have n4_:=Aside0.mk (hi);clear HO_7;clear qg;clear qd;clear HB;clear qc;have HO_7:=n0_;have qg:=n1_;have qd:=n2_;have HB:=n3_;have qc:=n4_;clear n0_ n1_ n2_ n3_ n4_;(try clear hb);(try clear hb2);(try clear hk);(try clear hi))|((with_reducible refine gate_callee (f:=85) rfl ?_);refine goesL_ (some 63) rfl rfl Try.func85 (by kernel_rfl) rfl #[.pointer (some ⟨qm,0,none⟩)] rfl z47x19 ?_;(with_reducible refine (spec_l71Seal.calls k1 qm qj wn wq wt ww vp vx vy ua gi w _ ?side1 ?side2 A49.out).mono ?_);(case side1=>repeat (first|(with_reducible first|exact qc.out|apply IsS158.alloc|apply IsS158.drewN|apply IsS158.drew|apply IsS158.set_1|refine IsS158.far ?_ qf.out _|refine IsS158.far ?_ qk.out _)|exact qc.out));(case side2=>repeat (first|(with_reducible first|exact HB.out|apply below_alloc|apply pw_below_drewN|apply below_drew1|refine below_set ?_ (IsS158.ge qc.out)|refine below_set ?_ qq.out|refine below_set ?_ we.out)|exact HB.out));rintro e w60 ⟨rfl,hi,hb,hk⟩; refine ⟨_,rfl,?_⟩; have n0_:=Aside0.mk (Kd.R_mono (Kd.R_keep (IsS158.apart (show IsS158 w _ qm qj wn from by repeat (first|(with_reducible first|exact qc.out|apply IsS158.alloc|apply IsS158.drewN|apply IsS158.drew|apply IsS158.set_1|refine IsS158.far ?_ qf.out _|refine IsS158.far ?_ qk.out _)|exact qc.out)) z47x23 (by decide)) hk (fun _ h=>h.2)) (fun _ h=>h.1));have n1_:=Aside0.mk (KeepBut.blk hk (g':=qb) (o:=.cells #[.int .i64 0,.int .i64 0,.int .i64 0,.int .i64 0,.int .i64 0,.int .i64 0,.int .i64 0] 41 (0,0)) z47x21 ql.out (by simp));have n2_:=Aside0.mk (KeepBut.blk hk (g':=qe) (o:=.cells #[.int .i64 qu,.int .i64 3,.int .i64 (wrap64 (1 + qv)),.int .i64 wc,.int .i64 (wrap64 (1 + qz)),.int .i64 0,.int .i64 0] 41 (0,0)) z47x22 qt.out (by simp));have n3_:=Aside0.mk (hb);have n4_:=Aside0.mk (hi);clear HO_7;clear qg;clear qd;clear HB;clear qc;have HO_7:=n0_;have qg:=n1_;have qd:=n2_;have HB:=n3_;have qc:=n4_;clear n0_ n1_ n2_ n3_ n4_;(try clear hb);(try clear hb2);(try clear hk);(try clear hi);have qlm : w60.cell? ⟨qe,0,none⟩ = some (.int .i64 qu):=(blk_cell qd.out 0).trans rfl;have qll : w60.cell? ⟨qe,1,none⟩ = some (.int .i64 3):=(blk_cell qd.out 1).trans rfl;have qlk : w60.cell? ⟨qe,2,none⟩ = some (.int .i64 (wrap64 (1 + qv))):=(blk_cell qd.out 2).trans rfl;have qlj : w60.cell? ⟨qe,3,none⟩ = some (.int .i64 wc):=(blk_cell qd.out 3).trans rfl;have qli : w60.cell? ⟨qe,4,none⟩ = some (.int .i64 (wrap64 (1 + qz))):=(blk_cell qd.out 4).trans rfl;have qlh : w60.cell? ⟨qe,5,none⟩ = some (.int .i64 0):=(blk_cell qd.out 5).trans rfl;have qlg : w60.cell? ⟨qe,6,none⟩ = some (.int .i64 0):=(blk_cell qd.out 6).trans rfl;have qkd:=blk_frozen qd.out 0;have qkc:=blk_frozen qd.out 1;have qkb:=blk_frozen qd.out 2;have qka:=blk_frozen qd.out 3;have qjz:=blk_frozen qd.out 4;have qjy:=blk_frozen qd.out 5;have qjx:=blk_frozen qd.out 6))
     have n0_ : Aside0 (Kd.R k41 41 (((((((w60.setCell ⟨qe,0,none⟩ (.int .i64 wq)).setCell ⟨qe,1,none⟩ (.int .i64 wt)).setCell ⟨qe,2,none⟩ (.int .i64 ww)).setCell ⟨qe,3,none⟩ (.int .i64 vp)).setCell ⟨qe,4,none⟩ (.int .i64 vx)).setCell ⟨qe,5,none⟩ (.int .i64 vy)).setCell ⟨qe,6,none⟩ (.int .i64 ua)) w.heap.size (fun k_=>k_ ≠ qb ∧ k_ ≠ qe) u7 qh):=⟨by (with_reducible repeat (first|apply Kd.R_alloc|apply Kd.R_drewN|apply Kd.R_drew));exact Kd.R_mono (Kd.R_far (p:=⟨qe,6,none⟩) (Kd.R_far (p:=⟨qe,5,none⟩) (Kd.R_far (p:=⟨qe,4,none⟩) (Kd.R_far (p:=⟨qe,3,none⟩) (Kd.R_far (p:=⟨qe,2,none⟩) (Kd.R_far (p:=⟨qe,1,none⟩) (Kd.R_far (p:=⟨qe,0,none⟩) (Kd.R_mono HO_7.out (fun k_ hk=>(⟨hk,hk.2⟩ : _ ∧ k_ ≠ qe))) (fun _ hk=>hk.2) (.int .i64 wq)) (fun _ hk=>hk.2) (.int .i64 wt)) (fun _ hk=>hk.2) (.int .i64 ww)) (fun _ hk=>hk.2) (.int .i64 vp)) (fun _ hk=>hk.2) (.int .i64 vx)) (fun _ hk=>hk.2) (.int .i64 vy)) (fun _ hk=>hk.2) (.int .i64 ua)) (fun _ hk=>⟨hk.1.1,hk.1.2⟩)⟩
     have n1_ : Aside0 ((((((((w60.setCell ⟨qe,0,none⟩ (.int .i64 wq)).setCell ⟨qe,1,none⟩ (.int .i64 wt)).setCell ⟨qe,2,none⟩ (.int .i64 ww)).setCell ⟨qe,3,none⟩ (.int .i64 vp)).setCell ⟨qe,4,none⟩ (.int .i64 vx)).setCell ⟨qe,5,none⟩ (.int .i64 vy)).setCell ⟨qe,6,none⟩ (.int .i64 ua)).heap[qb]? = some (.cells #[.int .i64 0,.int .i64 0,.int .i64 0,.int .i64 0,.int .i64 0,.int .i64 0,.int .i64 0] 41 (0,0))):=⟨by (with_reducible repeat (first|refine blk_drewN ?_ _|refine blk_drew ?_|refine blk_alloc ?_ _));refine blk_far ?_ qi.out _;(with_reducible repeat (first|refine blk_drewN ?_ _|refine blk_drew ?_|refine blk_alloc ?_ _));refine blk_far ?_ qi.out _;(with_reducible repeat (first|refine blk_drewN ?_ _|refine blk_drew ?_|refine blk_alloc ?_ _));refine blk_far ?_ qi.out _;(with_reducible repeat (first|refine blk_drewN ?_ _|refine blk_drew ?_|refine blk_alloc ?_ _));refine blk_far ?_ qi.out _;(with_reducible repeat (first|refine blk_drewN ?_ _|refine blk_drew ?_|refine blk_alloc ?_ _));refine blk_far ?_ qi.out _;(with_reducible repeat (first|refine blk_drewN ?_ _|refine blk_drew ?_|refine blk_alloc ?_ _));refine blk_far ?_ qi.out _;(with_reducible repeat (first|refine blk_drewN ?_ _|refine blk_drew ?_|refine blk_alloc ?_ _));refine blk_far ?_ qi.out _;(with_reducible repeat (first|refine blk_drewN ?_ _|refine blk_drew ?_|refine blk_alloc ?_ _));exact qg.out⟩
     have n2_ : Aside0 ((((((((w60.setCell ⟨qe,0,none⟩ (.int .i64 wq)).setCell ⟨qe,1,none⟩ (.int .i64 wt)).setCell ⟨qe,2,none⟩ (.int .i64 ww)).setCell ⟨qe,3,none⟩ (.int .i64 vp)).setCell ⟨qe,4,none⟩ (.int .i64 vx)).setCell ⟨qe,5,none⟩ (.int .i64 vy)).setCell ⟨qe,6,none⟩ (.int .i64 ua)).heap[qe]? = some (.cells #[.int .i64 wq,.int .i64 wt,.int .i64 ww,.int .i64 vp,.int .i64 vx,.int .i64 vy,.int .i64 ua] 41 (0,0))):=⟨by (with_reducible repeat (first|refine blk_drewN ?_ _|refine blk_drew ?_|refine blk_alloc ?_ _));refine blk_put (cs:=#[.int .i64 wq,.int .i64 wt,.int .i64 ww,.int .i64 vp,.int .i64 vx,.int .i64 vy,.int .i64 0]) ?_ 6 _ rfl;(with_reducible repeat (first|refine blk_drewN ?_ _|refine blk_drew ?_|refine blk_alloc ?_ _));refine blk_put (cs:=#[.int .i64 wq,.int .i64 wt,.int .i64 ww,.int .i64 vp,.int .i64 vx,.int .i64 0,.int .i64 0]) ?_ 5 _ rfl;(with_reducible repeat (first|refine blk_drewN ?_ _|refine blk_drew ?_|refine blk_alloc ?_ _));refine blk_put (cs:=#[.int .i64 wq,.int .i64 wt,.int .i64 ww,.int .i64 vp,.int .i64 (wrap64 (1 + qz)),.int .i64 0,.int .i64 0]) ?_ 4 _ rfl;(with_reducible repeat (first|refine blk_drewN ?_ _|refine blk_drew ?_|refine blk_alloc ?_ _));refine blk_put (cs:=#[.int .i64 wq,.int .i64 wt,.int .i64 ww,.int .i64 wc,.int .i64 (wrap64 (1 + qz)),.int .i64 0,.int .i64 0]) ?_ 3 _ rfl;(with_reducible repeat (first|refine blk_drewN ?_ _|refine blk_drew ?_|refine blk_alloc ?_ _));refine blk_put (cs:=#[.int .i64 wq,.int .i64 wt,.int .i64 (wrap64 (1 + qv)),.int .i64 wc,.int .i64 (wrap64 (1 + qz)),.int .i64 0,.int .i64 0]) ?_ 2 _ rfl;(with_reducible repeat (first|refine blk_drewN ?_ _|refine blk_drew ?_|refine blk_alloc ?_ _));refine blk_put (cs:=#[.int .i64 wq,.int .i64 3,.int .i64 (wrap64 (1 + qv)),.int .i64 wc,.int .i64 (wrap64 (1 + qz)),.int .i64 0,.int .i64 0]) ?_ 1 _ rfl;(with_reducible repeat (first|refine blk_drewN ?_ _|refine blk_drew ?_|refine blk_alloc ?_ _));refine blk_put (cs:=#[.int .i64 qu,.int .i64 3,.int .i64 (wrap64 (1 + qv)),.int .i64 wc,.int .i64 (wrap64 (1 + qz)),.int .i64 0,.int .i64 0]) ?_ 0 _ rfl;(with_reducible repeat (first|refine blk_drewN ?_ _|refine blk_drew ?_|refine blk_alloc ?_ _));exact qd.out⟩
     have n3_ : Aside0 (IsS158 w (((((((w60.setCell ⟨qe,0,none⟩ (.int .i64 wq)).setCell ⟨qe,1,none⟩ (.int .i64 wt)).setCell ⟨qe,2,none⟩ (.int .i64 ww)).setCell ⟨qe,3,none⟩ (.int .i64 vp)).setCell ⟨qe,4,none⟩ (.int .i64 vx)).setCell ⟨qe,5,none⟩ (.int .i64 vy)).setCell ⟨qe,6,none⟩ (.int .i64 ua)) qm qj gi):=⟨by repeat (first|(with_reducible first|exact qc.out|apply IsS158.alloc|apply IsS158.drewN|apply IsS158.drew|apply IsS158.set_1|refine IsS158.far ?_ qf.out _|refine IsS158.far ?_ qk.out _)|exact qc.out)⟩
     have n4_ : Aside0 (Below w.heap.size w (((((((w60.setCell ⟨qe,0,none⟩ (.int .i64 wq)).setCell ⟨qe,1,none⟩ (.int .i64 wt)).setCell ⟨qe,2,none⟩ (.int .i64 ww)).setCell ⟨qe,3,none⟩ (.int .i64 vp)).setCell ⟨qe,4,none⟩ (.int .i64 vx)).setCell ⟨qe,5,none⟩ (.int .i64 vy)).setCell ⟨qe,6,none⟩ (.int .i64 ua))):=⟨by repeat (first|(with_reducible first|exact HB.out|apply below_alloc|apply pw_below_drewN|apply below_drew1|refine below_set ?_ (IsS158.ge qc.out)|refine below_set ?_ qq.out|refine below_set ?_ we.out)|exact HB.out)⟩
     (try clear HO_7)
     (try clear qg)
     (try clear qd)
     (try clear qc)
     (try clear HB)
     generalize (((((((w60.setCell ⟨qe,0,none⟩ (.int .i64 wq)).setCell ⟨qe,1,none⟩ (.int .i64 wt)).setCell ⟨qe,2,none⟩ (.int .i64 ww)).setCell ⟨qe,3,none⟩ (.int .i64 vp)).setCell ⟨qe,4,none⟩ (.int .i64 vx)).setCell ⟨qe,5,none⟩ (.int .i64 vy)).setCell ⟨qe,6,none⟩ (.int .i64 ua)) = w62 at n0_ n1_ n2_ n3_ n4_ ⊢
     have HO_7:=n0_
     have qg:=n1_
     have qd:=n2_
     have qc:=n3_
     have HB:=n4_
     clear n0_ n1_ n2_ n3_ n4_
     have n0_:=Aside0.mk (Kd.R_drew HO_7.out)
     have n1_:=Aside0.mk (blk_drew qg.out)
     have n2_:=Aside0.mk (blk_drew qd.out)
     have n3_:=Aside0.mk (IsS158.drew qc.out)
     have n4_:=Aside0.mk (below_drew1 HB.out)
     clear HO_7
     clear qg
     clear qd
     clear qc
     clear HB
     have HO_7:=n0_
     have qg:=n1_
     have qd:=n2_
     have qc:=n3_
     have HB:=n4_
     clear n0_ n1_ n2_ n3_ n4_
     refine start_ (n:=11) (S:=fun w' => w'.cell? ⟨qe,0,none⟩ = some (.int .i64 wq) ∧ w'.cell? ⟨qe,1,none⟩ = some (.int .i64 wt) ∧ w'.cell? ⟨qe,2,none⟩ = some (.int .i64 ww) ∧ w'.cell? ⟨qe,3,none⟩ = some (.int .i64 vp) ∧ w'.cell? ⟨qe,4,none⟩ = some (.int .i64 vx) ∧ w'.cell? ⟨qe,5,none⟩ = some (.int .i64 vy) ∧ w'.cell? ⟨qe,6,none⟩ = some (.int .i64 ua)) (ds:=[]) #[false,false,false,false,false,false,false,false,false,false,false] (by kernel_rfl) rfl rfl ⟨(blk_cell qd.out 0).trans rfl,(blk_cell qd.out 1).trans rfl,(blk_cell qd.out 2).trans rfl,(blk_cell qd.out 3).trans rfl,(blk_cell qd.out 4).trans rfl,(blk_cell qd.out 5).trans rfl,(blk_cell qd.out 6).trans rfl⟩ (fun hHeld=>?_);refine with_tabW spec_DrawCacheWith.tab24 spec_DrawCacheWith.bits24 (fun HT_ HW_=>?_)
     generalize w62.drew = w63 at HO_7 qg qd qc HB hHeld ⊢
     refine pure_ (i:=0) (N:=some 104) (v:=?_) (a':=?_) #[true,false,false,false,false,false,false,false,false,false,false] rfl rfl (any_of HT_.out (by kernel_rfl)) (fun _ _ _ h=>h) (Or.inl ⟨by rfl,?_⟩) ?_ ?_
     rotate_left
     ·intro w'
      go_simp
      with_reducible rfl
     rotate_left
     ·exact z47a
     refine pure_ (i:=2) (N:=some 106) (v:=?_) (a':=?_) #[true,false,true,false,false,false,false,false,false,false,false] rfl rfl (any_of HT_.out (by kernel_rfl)) (fun _ _ _ h=>h) (Or.inl ⟨by rfl,?_⟩) ?_ ?_
     rotate_left
     ·intro w'
      go_simp
      with_reducible rfl
     rotate_left
     ·exact z47a
     refine pure_ (i:=3) (N:=some 107) (v:=?_) (a':=?_) #[true,false,true,true,false,false,false,false,false,false,false] rfl rfl (any_of HT_.out (by kernel_rfl)) (fun _ _ _ h=>h) (Or.inl ⟨by rfl,?_⟩) ?_ ?_
     rotate_left
     ·intro w'
      go_simp
      with_reducible rfl
     rotate_left
     ·exact z47a
     refine take_ (i:=1) (N:=some 105) (v:=?_) (a':=?_) #[true,true,true,true,false,false,false,false,false,false,false] rfl rfl (take_ofW HT_.out HW_.out (by kernel_rfl)) (fun _ _ _ h=>h) (Or.inl ⟨by rfl,?_⟩) hHeld ?_ ?_
     rotate_left
     ·rintro w' ⟨s0,s1,s2,s3,s4,s5,s6⟩
      go_simp
      with_reducible rfl
     rotate_left
     ·exact z47a
     refine one_ (i:=4) (N:=some 108) #[true,true,true,true,true,false,false,false,false,false,false] rfl rfl (one_of HT_.out (by kernel_rfl)) (by decide) (fun K hK=>?_)
     refine goes_ Try.func70 (by kernel_rfl) rfl #[.pointer (some ⟨qm,0,none⟩),.int .i64 30] (by rfl) rfl rfl z47x19 ?_
     with_reducible refine (spec_l6Rd_pick.calls k1 qm qj gi 30 qdr qna w _ ?side1 ?side2 A50.out).mono ?_
     (case side1=>repeat (first|(with_reducible first|exact qc.out|apply IsS158.alloc|apply IsS158.drewN|apply IsS158.drew|apply IsS158.set_1|refine IsS158.far ?_ qf.out _|refine IsS158.far ?_ qk.out _)|exact qc.out))
     (case side2=>repeat (first|(with_reducible first|exact HB.out|apply below_alloc|apply pw_below_drewN|apply below_drew1|refine below_set ?_ (IsS158.ge qc.out)|refine below_set ?_ qq.out|refine below_set ?_ we.out)|exact HB.out))
     rintro e w64 ⟨rfl,hi,hb,hk⟩
     refine ⟨_,rfl,?_⟩
     have n0_:=Aside0.mk (Kd.R_mono (Kd.R_keep (IsS158.apart (show IsS158 w _ qm qj gi from by repeat (first|(with_reducible first|exact qc.out|apply IsS158.alloc|apply IsS158.drewN|apply IsS158.drew|apply IsS158.set_1|refine IsS158.far ?_ qf.out _|refine IsS158.far ?_ qk.out _)|exact qc.out)) z47x23 (by decide)) hk (fun _ h=>h.2)) (fun _ h=>h.1))
     have n1_:=Aside0.mk (KeepBut.blk hk (g':=qb) (o:=.cells #[.int .i64 0,.int .i64 0,.int .i64 0,.int .i64 0,.int .i64 0,.int .i64 0,.int .i64 0] 41 (0,0)) z47x21 ql.out (by simp))
     have n2_:=Aside0.mk (KeepBut.blk hk (g':=qe) (o:=.cells #[.int .i64 wq,.int .i64 wt,.int .i64 ww,.int .i64 vp,.int .i64 vx,.int .i64 vy,.int .i64 ua] 41 (0,0)) z47x22 qt.out (by simp))
     have n3_:=Aside0.mk (hb)
     have n4_:=Aside0.mk (hi)
     clear HO_7
     clear qg
     clear qd
     clear HB
     clear qc
     have HO_7:=n0_
     have qg:=n1_
     have qd:=n2_
     have HB:=n3_
     have qc:=n4_
     clear n0_ n1_ n2_ n3_ n4_
     (try clear hb)
     (try clear hb2)
     (try clear hk)
     (try clear hi)
     refine hK.out _ _ ⟨(blk_cell qd.out 0).trans rfl,(blk_cell qd.out 1).trans rfl,(blk_cell qd.out 2).trans rfl,(blk_cell qd.out 3).trans rfl,(blk_cell qd.out 4).trans rfl,(blk_cell qd.out 5).trans rfl,(blk_cell qd.out 6).trans rfl⟩ (fun hHeld=>?_)
     clear hK K
     refine norm_ (a':=?_) ?_ ?_
     rotate_left
     ·show Act.put _ (some 108) _ = _
      simp only [Act.put,List.setIfInBounds_toArray,List.set_cons_zero,List.set_cons_succ,i64_w,i32_w]
      rfl
     refine pure_ (i:=5) (N:=some 109) (v:=?_) (a':=?_) #[true,true,true,true,true,true,false,false,false,false,false] rfl rfl (any_of HT_.out (by kernel_rfl)) (fun _ _ _ h=>h) (Or.inl ⟨by rfl,?_⟩) ?_ ?_
     rotate_left
     ·intro w'
      go_simp
      with_reducible rfl
     rotate_left
     ·exact z47a
     refine pure_ (i:=6) (N:=some 110) (v:=?_) (a':=?_) #[true,true,true,true,true,true,true,false,false,false,false] rfl rfl (any_of HT_.out (by kernel_rfl)) (fun _ _ _ h=>h) (Or.inl ⟨by rfl,?_⟩) ?_ ?_
     rotate_left
     ·intro w'
      go_simp
      with_reducible rfl
     rotate_left
     ·exact z47a
     refine pure_ (i:=7) (N:=some 111) (v:=?_) (a':=?_) #[true,true,true,true,true,true,true,true,false,false,false] rfl rfl (any_of HT_.out (by kernel_rfl)) (fun _ _ _ h=>h) (Or.inl ⟨by rfl,?_⟩) ?_ ?_
     rotate_left
     ·intro w'
      go_simp
      with_reducible rfl
     rotate_left
     ·exact z47a
     refine pure_ (i:=8) (N:=some 2) (v:=?_) (a':=?_) #[true,true,true,true,true,true,true,true,true,false,false] rfl rfl (any_of HT_.out (by kernel_rfl)) (fun _ _ _ h=>h) (Or.inl ⟨by rfl,?_⟩) ?_ ?_
     rotate_left
     ·intro w'
      go_simp
      with_reducible rfl
     rotate_left
     ·exact z47a
     refine one_ (i:=9) (N:=none) #[true,true,true,true,true,true,true,true,true,true,false] rfl rfl (one_of HT_.out (by kernel_rfl)) (by decide) (fun K hK=>?_)
     have quf : w64.cell? ⟨qb,0,none⟩ = some (.int .i64 0):=(blk_cell qg.out 0).trans rfl
     have qsc:=blk_frozen qg.out 0
     have qji:=qa.out
     have qjw:=qi.out
     have que : w64.cell? ⟨qb,1,none⟩ = some (.int .i64 0):=(blk_cell qg.out 1).trans rfl
     have qsb:=blk_frozen qg.out 1
     have qjh:=qa.out
     have qjv:=qi.out
     have qud : w64.cell? ⟨qb,2,none⟩ = some (.int .i64 0):=(blk_cell qg.out 2).trans rfl
     have qsa:=blk_frozen qg.out 2
     have qjg:=qa.out
     have qju:=qi.out
     have quc : w64.cell? ⟨qb,3,none⟩ = some (.int .i64 0):=(blk_cell qg.out 3).trans rfl
     have qrz:=blk_frozen qg.out 3
     have qjf:=qa.out
     have qjt:=qi.out
     have qub : w64.cell? ⟨qb,4,none⟩ = some (.int .i64 0):=(blk_cell qg.out 4).trans rfl
     have qry:=blk_frozen qg.out 4
     have qje:=qa.out
     have qjs:=qi.out
     have qua : w64.cell? ⟨qb,5,none⟩ = some (.int .i64 0):=(blk_cell qg.out 5).trans rfl
     have qrx:=blk_frozen qg.out 5
     have qjd:=qa.out
     have qjr:=qi.out
     have qtz : w64.cell? ⟨qb,6,none⟩ = some (.int .i64 0):=(blk_cell qg.out 6).trans rfl
     have qrw:=blk_frozen qg.out 6
     have qjc:=qa.out
     have qjq:=qi.out
     refine skip_ (w1:=?_) (by rfl) rfl ?_ ?_
     rotate_left
     ·go_simp
      rfl
     refine hK.out _ _ ⟨((cell_far (p:=⟨qb,_,none⟩) qa.out _).trans (((cell_far (p:=⟨qb,_,none⟩) qa.out _).trans (((cell_far (p:=⟨qb,_,none⟩) qa.out _).trans (((cell_far (p:=⟨qb,_,none⟩) qa.out _).trans (((cell_far (p:=⟨qb,_,none⟩) qa.out _).trans (((cell_far (p:=⟨qb,_,none⟩) qa.out _).trans (((cell_far (p:=⟨qb,_,none⟩) qa.out _).trans (hHeld.1)))))))))))))),((cell_far (p:=⟨qb,_,none⟩) qa.out _).trans (((cell_far (p:=⟨qb,_,none⟩) qa.out _).trans (((cell_far (p:=⟨qb,_,none⟩) qa.out _).trans (((cell_far (p:=⟨qb,_,none⟩) qa.out _).trans (((cell_far (p:=⟨qb,_,none⟩) qa.out _).trans (((cell_far (p:=⟨qb,_,none⟩) qa.out _).trans (((cell_far (p:=⟨qb,_,none⟩) qa.out _).trans (hHeld.2.1)))))))))))))),((cell_far (p:=⟨qb,_,none⟩) qa.out _).trans (((cell_far (p:=⟨qb,_,none⟩) qa.out _).trans (((cell_far (p:=⟨qb,_,none⟩) qa.out _).trans (((cell_far (p:=⟨qb,_,none⟩) qa.out _).trans (((cell_far (p:=⟨qb,_,none⟩) qa.out _).trans (((cell_far (p:=⟨qb,_,none⟩) qa.out _).trans (((cell_far (p:=⟨qb,_,none⟩) qa.out _).trans (hHeld.2.2.1)))))))))))))),((cell_far (p:=⟨qb,_,none⟩) qa.out _).trans (((cell_far (p:=⟨qb,_,none⟩) qa.out _).trans (((cell_far (p:=⟨qb,_,none⟩) qa.out _).trans (((cell_far (p:=⟨qb,_,none⟩) qa.out _).trans (((cell_far (p:=⟨qb,_,none⟩) qa.out _).trans (((cell_far (p:=⟨qb,_,none⟩) qa.out _).trans (((cell_far (p:=⟨qb,_,none⟩) qa.out _).trans (hHeld.2.2.2.1)))))))))))))),((cell_far (p:=⟨qb,_,none⟩) qa.out _).trans (((cell_far (p:=⟨qb,_,none⟩) qa.out _).trans (((cell_far (p:=⟨qb,_,none⟩) qa.out _).trans (((cell_far (p:=⟨qb,_,none⟩) qa.out _).trans (((cell_far (p:=⟨qb,_,none⟩) qa.out _).trans (((cell_far (p:=⟨qb,_,none⟩) qa.out _).trans (((cell_far (p:=⟨qb,_,none⟩) qa.out _).trans (hHeld.2.2.2.2.1)))))))))))))),((cell_far (p:=⟨qb,_,none⟩) qa.out _).trans (((cell_far (p:=⟨qb,_,none⟩) qa.out _).trans (((cell_far (p:=⟨qb,_,none⟩) qa.out _).trans (((cell_far (p:=⟨qb,_,none⟩) qa.out _).trans (((cell_far (p:=⟨qb,_,none⟩) qa.out _).trans (((cell_far (p:=⟨qb,_,none⟩) qa.out _).trans (((cell_far (p:=⟨qb,_,none⟩) qa.out _).trans (hHeld.2.2.2.2.2.1)))))))))))))),((cell_far (p:=⟨qb,_,none⟩) qa.out _).trans (((cell_far (p:=⟨qb,_,none⟩) qa.out _).trans (((cell_far (p:=⟨qb,_,none⟩) qa.out _).trans (((cell_far (p:=⟨qb,_,none⟩) qa.out _).trans (((cell_far (p:=⟨qb,_,none⟩) qa.out _).trans (((cell_far (p:=⟨qb,_,none⟩) qa.out _).trans (((cell_far (p:=⟨qb,_,none⟩) qa.out _).trans (hHeld.2.2.2.2.2.2))))))))))))))⟩ (fun hHeld=>?_)
     clear hK K
     refine pure_ (i:=10) (N:=some 4) (v:=?_) (a':=?_) #[true,true,true,true,true,true,true,true,true,true,true] rfl rfl (any_of HT_.out (by kernel_rfl)) (fun _ _ _ h=>h) (Or.inl ⟨by rfl,?_⟩) ?_ ?_
     rotate_left
     ·intro w'
      go_simp
      with_reducible rfl
     rotate_left
     ·exact z47a
     refine done_ (done_of HT_.out (by kernel_rfl)) ?_
     try go_wp2
     refine bodyPost_ret (results_list (rs:=[.tmp 2,.cell 3 41,.tmp 4]) rfl (by simp) (.tmp (.cell qb 41 #[.int .i64 wq,.int .i64 wt,.int .i64 ww,.int .i64 vp,.int .i64 vx,.int .i64 vy,.int .i64 ua] (0,0) _ rfl (by (with_reducible repeat (first|refine blk_drewN ?_ _|refine blk_drew ?_|refine blk_alloc ?_ _));refine blk_put (cs:=#[.int .i64 wq,.int .i64 wt,.int .i64 ww,.int .i64 vp,.int .i64 vx,.int .i64 vy,.int .i64 0]) ?_ 6 _ rfl;(with_reducible repeat (first|refine blk_drewN ?_ _|refine blk_drew ?_|refine blk_alloc ?_ _));refine blk_put (cs:=#[.int .i64 wq,.int .i64 wt,.int .i64 ww,.int .i64 vp,.int .i64 vx,.int .i64 0,.int .i64 0]) ?_ 5 _ rfl;(with_reducible repeat (first|refine blk_drewN ?_ _|refine blk_drew ?_|refine blk_alloc ?_ _));refine blk_put (cs:=#[.int .i64 wq,.int .i64 wt,.int .i64 ww,.int .i64 vp,.int .i64 0,.int .i64 0,.int .i64 0]) ?_ 4 _ rfl;(with_reducible repeat (first|refine blk_drewN ?_ _|refine blk_drew ?_|refine blk_alloc ?_ _));refine blk_put (cs:=#[.int .i64 wq,.int .i64 wt,.int .i64 ww,.int .i64 0,.int .i64 0,.int .i64 0,.int .i64 0]) ?_ 3 _ rfl;(with_reducible repeat (first|refine blk_drewN ?_ _|refine blk_drew ?_|refine blk_alloc ?_ _));refine blk_put (cs:=#[.int .i64 wq,.int .i64 wt,.int .i64 0,.int .i64 0,.int .i64 0,.int .i64 0,.int .i64 0]) ?_ 2 _ rfl;(with_reducible repeat (first|refine blk_drewN ?_ _|refine blk_drew ?_|refine blk_alloc ?_ _));refine blk_put (cs:=#[.int .i64 wq,.int .i64 0,.int .i64 0,.int .i64 0,.int .i64 0,.int .i64 0,.int .i64 0]) ?_ 1 _ rfl;(with_reducible repeat (first|refine blk_drewN ?_ _|refine blk_drew ?_|refine blk_alloc ?_ _));refine blk_put (cs:=#[.int .i64 0,.int .i64 0,.int .i64 0,.int .i64 0,.int .i64 0,.int .i64 0,.int .i64 0]) ?_ 0 _ rfl;(with_reducible repeat (first|refine blk_drewN ?_ _|refine blk_drew ?_|refine blk_alloc ?_ _));exact qg.out) Try.underlying41 rfl (by kernel_rfl) (.tmp .nil)))) rfl ?_
     exact ⟨_,by first|rfl|(simp [errW_none,errW_some] <;> rfl)|(simp only [← vr];first|rfl|(simp [errW_none,errW_some] <;> rfl))|(simp [*,errW_none,errW_some] <;> rfl),by (with_reducible repeat (first|apply Kd.R_alloc|apply Kd.R_drewN|apply Kd.R_drew));exact Kd.R_mono (Kd.R_far (p:=⟨qb,6,none⟩) (Kd.R_far (p:=⟨qb,5,none⟩) (Kd.R_far (p:=⟨qb,4,none⟩) (Kd.R_far (p:=⟨qb,3,none⟩) (Kd.R_far (p:=⟨qb,2,none⟩) (Kd.R_far (p:=⟨qb,1,none⟩) (Kd.R_far (p:=⟨qb,0,none⟩) (Kd.R_mono HO_7.out (fun k_ hk=>(⟨hk,hk.1⟩ : _ ∧ k_ ≠ qb))) (fun _ hk=>hk.2) (.int .i64 wq)) (fun _ hk=>hk.2) (.int .i64 wt)) (fun _ hk=>hk.2) (.int .i64 ww)) (fun _ hk=>hk.2) (.int .i64 vp)) (fun _ hk=>hk.2) (.int .i64 vx)) (fun _ hk=>hk.2) (.int .i64 vy)) (fun _ hk=>hk.2) (.int .i64 ua)) (fun _ hk=>trivial),by repeat (first|(with_reducible first|exact HB.out|apply below_alloc|apply pw_below_drewN|apply below_drew1|refine below_set ?_ (IsS158.ge qc.out)|refine below_set ?_ qq.out|refine below_set ?_ we.out)|exact HB.out)⟩
    ·rw [if_neg c48] at H
     have qhu : (wi == 0) = false:=beq_eq_false_iff_ne.mpr c48
     have qht : (wi != 0) = true:=bne_iff_ne.mpr c48
     by_cases c72 : wi = 1
     ·rw [if_pos c72] at H
      have qcp : (wi == 1) = true:=beq_iff_eq.mpr c72
      have qco : (wi != 1) = false:=bne_eq_false_iff_eq.mpr c72
      clear c72
      by_cases c73 : (qh.length : Int) > 0
      rotate_left
      ·rw [if_neg c73] at H
       have qcn : decide (0 < (qh.length : Int)) = false:=decide_eq_false c73
       have qcm : decide (0 < qh.length) = false:=decide_eq_false (by omega)
       clear c73
       replace H:=Option.bind_eq_some_iff.mp H
       obtain ⟨⟨qdp,qmy⟩,qcx,H⟩:=H
       replace H : (some (qh,qu,3,wrap64 (1 + qv),wc,wrap64 (1 + qz),0,0,wrap64 (qo + (wrap64 ((wrap64 (Int.tdiv qdp 29)) * 100))))) = some (r1,r2,r3,r4,r5,r6,r7,r8,r9):=H
       have qpp:=Aside0.mk qcx
       clear qcx
       simp only [Option.some.injEq,Prod.mk.injEq] at H
       obtain ⟨rfl,rfl,rfl,rfl,rfl,rfl,rfl,rfl,rfl⟩:=H
       try go_wp2_with (first|((with_reducible refine gate_callee (f:=99) rfl ?_);refine goesL_ (some 45) rfl rfl Try.func99 (by kernel_rfl) rfl #[.pointer (some ⟨qm,0,none⟩)] rfl z47x19 ?_;(with_reducible refine (spec_l71Key.calls k1 qm qj wb qu vm w _ ?side1 ?side2 A42.out).mono ?_);(case side1=>repeat (first|(with_reducible first|exact qc.out|apply IsS158.alloc|apply IsS158.drewN|apply IsS158.drew|apply IsS158.set_1|refine IsS158.far ?_ qf.out _)|exact qc.out));(case side2=>repeat (first|(with_reducible first|exact HB.out|apply below_alloc|apply pw_below_drewN|apply below_drew1|refine below_set ?_ (IsS158.ge qc.out)|refine below_set ?_ qq.out)|exact HB.out));rintro e qtl ⟨rfl,hi,hb,hk⟩; refine ⟨_,rfl,?_⟩; have n0_:=Aside0.mk (Kd.R_mono (Kd.R_keep (IsS158.apart (show IsS158 w _ qm qj wb from by repeat (first|(with_reducible first|exact qc.out|apply IsS158.alloc|apply IsS158.drewN|apply IsS158.drew|apply IsS158.set_1|refine IsS158.far ?_ qf.out _)|exact qc.out)) z47x23 (by decide)) hk (fun _ h=>h.2)) (fun _ h=>h.1));have n1_:=Aside0.mk (KeepBut.blk hk (g':=qb) (o:=.cells #[.int .i64 0,.int .i64 0,.int .i64 0,.int .i64 0,.int .i64 0,.int .i64 0,.int .i64 0] 41 (0,0)) z47x21 ql.out (by simp));have n2_:=Aside0.mk (hb);have n3_:=Aside0.mk (hi);clear HO_7;clear qg;clear HB;clear qc;have HO_7:=n0_;have qg:=n1_;have HB:=n2_;have qc:=n3_;clear n0_ n1_ n2_ n3_;(try clear hb);(try clear hb2);(try clear hk);(try clear hi))|((with_reducible refine gate_callee (f:=70) rfl ?_);refine goesL_ (some 47) rfl rfl Try.func70 (by kernel_rfl) rfl #[.pointer (some ⟨qm,0,none⟩),.int .i64 3] rfl z47x19 ?_;(with_reducible refine (spec_l6Rd_pick.calls k1 qm qj vm 3 qv vl w _ ?side1 ?side2 A43.out).mono ?_);(case side1=>repeat (first|(with_reducible first|exact qc.out|apply IsS158.alloc|apply IsS158.drewN|apply IsS158.drew|apply IsS158.set_1|refine IsS158.far ?_ qf.out _)|exact qc.out));(case side2=>repeat (first|(with_reducible first|exact HB.out|apply below_alloc|apply pw_below_drewN|apply below_drew1|refine below_set ?_ (IsS158.ge qc.out)|refine below_set ?_ qq.out)|exact HB.out));rintro e qtk ⟨rfl,hi,hb,hk⟩; refine ⟨_,rfl,?_⟩; have n0_:=Aside0.mk (Kd.R_mono (Kd.R_keep (IsS158.apart (show IsS158 w _ qm qj vm from by repeat (first|(with_reducible first|exact qc.out|apply IsS158.alloc|apply IsS158.drewN|apply IsS158.drew|apply IsS158.set_1|refine IsS158.far ?_ qf.out _)|exact qc.out)) z47x23 (by decide)) hk (fun _ h=>h.2)) (fun _ h=>h.1));have n1_:=Aside0.mk (KeepBut.blk hk (g':=qb) (o:=.cells #[.int .i64 0,.int .i64 0,.int .i64 0,.int .i64 0,.int .i64 0,.int .i64 0,.int .i64 0] 41 (0,0)) z47x21 ql.out (by simp));have n2_:=Aside0.mk (hb);have n3_:=Aside0.mk (hi);clear HO_7;clear qg;clear HB;clear qc;have HO_7:=n0_;have qg:=n1_;have HB:=n2_;have qc:=n3_;clear n0_ n1_ n2_ n3_;(try clear hb);(try clear hb2);(try clear hk);(try clear hi))|((with_reducible refine gate_callee (f:=70) rfl ?_);refine goesL_ (some 51) rfl rfl Try.func70 (by kernel_rfl) rfl #[.pointer (some ⟨qm,0,none⟩),.int .i64 3] rfl z47x19 ?_;(with_reducible refine (spec_l6Rd_pick.calls k1 qm qj vl 3 ub wx w _ ?side1 ?side2 A44.out).mono ?_);(case side1=>repeat (first|(with_reducible first|exact qc.out|apply IsS158.alloc|apply IsS158.drewN|apply IsS158.drew|apply IsS158.set_1|refine IsS158.far ?_ qf.out _)|exact qc.out));(case side2=>repeat (first|(with_reducible first|exact HB.out|apply below_alloc|apply pw_below_drewN|apply below_drew1|refine below_set ?_ (IsS158.ge qc.out)|refine below_set ?_ qq.out)|exact HB.out));rintro e qtj ⟨rfl,hi,hb,hk⟩; refine ⟨_,rfl,?_⟩; have n0_:=Aside0.mk (Kd.R_mono (Kd.R_keep (IsS158.apart (show IsS158 w _ qm qj vl from by repeat (first|(with_reducible first|exact qc.out|apply IsS158.alloc|apply IsS158.drewN|apply IsS158.drew|apply IsS158.set_1|refine IsS158.far ?_ qf.out _)|exact qc.out)) z47x23 (by decide)) hk (fun _ h=>h.2)) (fun _ h=>h.1));have n1_:=Aside0.mk (KeepBut.blk hk (g':=qb) (o:=.cells #[.int .i64 0,.int .i64 0,.int .i64 0,.int .i64 0,.int .i64 0,.int .i64 0,.int .i64 0] 41 (0,0)) z47x21 ql.out (by simp));have n2_:=Aside0.mk (hb);have n3_:=Aside0.mk (hi);clear HO_7;clear qg;clear HB;clear qc;have HO_7:=n0_;have qg:=n1_;have HB:=n2_;have qc:=n3_;clear n0_ n1_ n2_ n3_;(try clear hb);(try clear hb2);(try clear hk);(try clear hi))|((with_reducible refine gate_callee (f:=70) rfl ?_);refine goesL_ (some 55) rfl rfl Try.func70 (by kernel_rfl) rfl #[.pointer (some ⟨qm,0,none⟩),.int .i64 9] rfl z47x19 ?_;(with_reducible refine (spec_l6Rd_pick.calls k1 qm qj wx 9 qz wv w _ ?side1 ?side2 A46.out).mono ?_);(case side1=>repeat (first|(with_reducible first|exact qc.out|apply IsS158.alloc|apply IsS158.drewN|apply IsS158.drew|apply IsS158.set_1|refine IsS158.far ?_ qf.out _)|exact qc.out));(case side2=>repeat (first|(with_reducible first|exact HB.out|apply below_alloc|apply pw_below_drewN|apply below_drew1|refine below_set ?_ (IsS158.ge qc.out)|refine below_set ?_ qq.out)|exact HB.out));rintro e qti ⟨rfl,hi,hb,hk⟩; refine ⟨_,rfl,?_⟩; have n0_:=Aside0.mk (Kd.R_mono (Kd.R_keep (IsS158.apart (show IsS158 w _ qm qj wx from by repeat (first|(with_reducible first|exact qc.out|apply IsS158.alloc|apply IsS158.drewN|apply IsS158.drew|apply IsS158.set_1|refine IsS158.far ?_ qf.out _)|exact qc.out)) z47x23 (by decide)) hk (fun _ h=>h.2)) (fun _ h=>h.1));have n1_:=Aside0.mk (KeepBut.blk hk (g':=qb) (o:=.cells #[.int .i64 0,.int .i64 0,.int .i64 0,.int .i64 0,.int .i64 0,.int .i64 0,.int .i64 0] 41 (0,0)) z47x21 ql.out (by simp));have n2_:=Aside0.mk (hb);have n3_:=Aside0.mk (hi);clear HO_7;clear qg;clear HB;clear qc;have HO_7:=n0_;have qg:=n1_;have HB:=n2_;have qc:=n3_;clear n0_ n1_ n2_ n3_;(try clear hb);(try clear hb2);(try clear hk);(try clear hi))|((with_reducible refine gate_dst (N:=10) rfl ?_);refine box_event ?hg (N:=10) ?hd (cs:=#[.int .i64 0,.int .i64 0,.int .i64 0,.int .i64 0,.int .i64 0,.int .i64 0,.int .i64 0]) (t:=41) ?hr ?_;(case hd=>rfl);(case hg=>rfl);(case hr=>first|(go_simp;done)|(go_simp;rfl));intro qe hg jh hbox hb;have n0_:=Aside0.mk (Kd.R_below (Kd.R_elderB z47x23 qe (Nat.le_of_eq hg.symm)) hb);have n1_:=Aside0.mk (blk_below (g:=qb) (o:=.cells #[.int .i64 0,.int .i64 0,.int .i64 0,.int .i64 0,.int .i64 0,.int .i64 0,.int .i64 0] 41 (0,0)) z47x21 hb);have n2_:=Aside0.mk (IsS158.below z47x18 hb);have n3_:=Aside0.mk (below_step z47x17 hb);have n4_:=Aside0.mk (hbox);have n5_:=Aside0.mk ((z47x15 : w.heap.size ≤ qe));have n6_:=Aside0.mk ((z47x15 : w.heap.size ≤ qe));have n7_:=Aside0.mk ((z47x8 : qb ≠ qe));have n8_:=Aside0.mk ((z47x7 : qe ≠ qb));have n9_:=Aside0.mk ((z47x12 : qm ≠ qe));have n10_:=Aside0.mk ((z47x10 : qe ≠ qm));clear HO_7;clear qg;clear qc;clear HB;have HO_7:=n0_;have qg:=n1_;have qc:=n2_;have HB:=n3_;have qd:=n4_;have uo:=n5_;have we:=n6_;have qi:=n7_;have qa:=n8_;have qk:=n9_;have qt:=n10_;clear n0_ n1_ n2_ n3_ n4_ n5_ n6_ n7_ n8_ n9_ n10_;clear hb hbox hg;have qnu:=qa.out;have qnk:=qi.out;have qnt:=qt.out;have qnj:=qk.out;have qar : jh.cell? ⟨qe,0,none⟩ = some (.int .i64 0):=(blk_cell qd.out 0).trans rfl;have qaq : jh.cell? ⟨qe,1,none⟩ = some (.int .i64 0):=(blk_cell qd.out 1).trans rfl;have qap : jh.cell? ⟨qe,2,none⟩ = some (.int .i64 0):=(blk_cell qd.out 2).trans rfl;have qao : jh.cell? ⟨qe,3,none⟩ = some (.int .i64 0):=(blk_cell qd.out 3).trans rfl;have qan : jh.cell? ⟨qe,4,none⟩ = some (.int .i64 0):=(blk_cell qd.out 4).trans rfl;have qam : jh.cell? ⟨qe,5,none⟩ = some (.int .i64 0):=(blk_cell qd.out 5).trans rfl;have qal : jh.cell? ⟨qe,6,none⟩ = some (.int .i64 0):=(blk_cell qd.out 6).trans rfl;have pn:=blk_frozen qd.out 0;have pm:=blk_frozen qd.out 1;have pl:=blk_frozen qd.out 2;have pk:=blk_frozen qd.out 3;have pj:=blk_frozen qd.out 4;have pi:=blk_frozen qd.out 5;have ph:=blk_frozen qd.out 6)|((with_reducible refine gate_callee (f:=70) rfl ?_);refine goesL_ (some 59) rfl rfl Try.func70 (by kernel_rfl) rfl #[.pointer (some ⟨qm,0,none⟩),.int .i64 12] rfl z47x19 ?_;(with_reducible refine (spec_l6Rd_pick.calls k1 qm qj wv 12 wi wn w _ ?side1 ?side2 A47.out).mono ?_);(case side1=>repeat (first|(with_reducible first|exact qc.out|apply IsS158.alloc|apply IsS158.drewN|apply IsS158.drew|apply IsS158.set_1|refine IsS158.far ?_ qf.out _|refine IsS158.far ?_ qk.out _)|exact qc.out));(case side2=>repeat (first|(with_reducible first|exact HB.out|apply below_alloc|apply pw_below_drewN|apply below_drew1|refine below_set ?_ (IsS158.ge qc.out)|refine below_set ?_ qq.out|refine below_set ?_ we.out)|exact HB.out));rintro e qmt ⟨rfl,hi,hb,hk⟩; refine ⟨_,rfl,?_⟩; have n0_:=Aside0.mk (Kd.R_mono (Kd.R_keep (IsS158.apart (show IsS158 w _ qm qj wv from by repeat (first|(with_reducible first|exact qc.out|apply IsS158.alloc|apply IsS158.drewN|apply IsS158.drew|apply IsS158.set_1|refine IsS158.far ?_ qf.out _|refine IsS158.far ?_ qk.out _)|exact qc.out)) z47x6 (by decide)) hk (fun _ h=>h.2)) (fun _ h=>h.1));have n1_:=Aside0.mk (KeepBut.blk hk (g':=qb) (o:=.cells #[.int .i64 0,.int .i64 0,.int .i64 0,.int .i64 0,.int .i64 0,.int .i64 0,.int .i64 0] 41 (0,0)) z47x4 ql.out (by simp));have n2_:=Aside0.mk (KeepBut.blk hk (g':=qe) (o:=.cells #[.int .i64 qu,.int .i64 3,.int .i64 (wrap64 (1 + qv)),.int .i64 wc,.int .i64 (wrap64 (1 + qz)),.int .i64 0,.int .i64 0] 41 (0,0)) z47x2 qt.out (by simp));have n3_:=Aside0.mk (hb);have n4_:=Aside0.mk (hi);clear HO_7;clear qg;clear qd;clear HB;clear qc;have HO_7:=n0_;have qg:=n1_;have qd:=n2_;have HB:=n3_;have qc:=n4_;clear n0_ n1_ n2_ n3_ n4_;(try clear hb);(try clear hb2);(try clear hk);(try clear hi);obtain ⟨qsh,qse,qho⟩:=Kd.R_slice HO_7.out;subst qho))
       have n0_:=Aside0.mk (Kd.R_drew HO_7.out)
       have n1_:=Aside0.mk (blk_drew qg.out)
       have n2_:=Aside0.mk (blk_drew qd.out)
       have n3_:=Aside0.mk (IsS158.drew qc.out)
       have n4_:=Aside0.mk (below_drew1 HB.out)
       clear HO_7
       clear qg
       clear qd
       clear qc
       clear HB
       have HO_7:=n0_
       have qg:=n1_
       have qd:=n2_
       have qc:=n3_
       have HB:=n4_
       clear n0_ n1_ n2_ n3_ n4_
       refine start_ (n:=11) (S:=fun w' => w'.cell? ⟨qe,0,none⟩ = some (.int .i64 qu) ∧ w'.cell? ⟨qe,1,none⟩ = some (.int .i64 3) ∧ w'.cell? ⟨qe,2,none⟩ = some (.int .i64 (wrap64 (1 + qv))) ∧ w'.cell? ⟨qe,3,none⟩ = some (.int .i64 wc) ∧ w'.cell? ⟨qe,4,none⟩ = some (.int .i64 (wrap64 (1 + qz))) ∧ w'.cell? ⟨qe,5,none⟩ = some (.int .i64 0) ∧ w'.cell? ⟨qe,6,none⟩ = some (.int .i64 0)) (ds:=[]) #[false,false,false,false,false,false,false,false,false,false,false] (by kernel_rfl) rfl rfl ⟨(blk_cell qd.out 0).trans rfl,(blk_cell qd.out 1).trans rfl,(blk_cell qd.out 2).trans rfl,(blk_cell qd.out 3).trans rfl,(blk_cell qd.out 4).trans rfl,(blk_cell qd.out 5).trans rfl,(blk_cell qd.out 6).trans rfl⟩ (fun hHeld=>?_);refine with_tabW spec_DrawCacheWith.tab24 spec_DrawCacheWith.bits24 (fun HT_ HW_=>?_)
       generalize qmt.drew = qth at HO_7 qg qd qc HB hHeld ⊢
       refine pure_ (i:=0) (N:=some 104) (v:=?_) (a':=?_) #[true,false,false,false,false,false,false,false,false,false,false] rfl rfl (any_of HT_.out (by kernel_rfl)) (fun _ _ _ h=>h) (Or.inl ⟨by rfl,?_⟩) ?_ ?_
       rotate_left
       ·intro w'
        go_simp
        with_reducible rfl
       rotate_left
       ·exact z47a
       refine pure_ (i:=2) (N:=some 106) (v:=?_) (a':=?_) #[true,false,true,false,false,false,false,false,false,false,false] rfl rfl (any_of HT_.out (by kernel_rfl)) (fun _ _ _ h=>h) (Or.inl ⟨by rfl,?_⟩) ?_ ?_
       rotate_left
       ·intro w'
        go_simp
        with_reducible rfl
       rotate_left
       ·exact z47a
       refine pure_ (i:=3) (N:=some 107) (v:=?_) (a':=?_) #[true,false,true,true,false,false,false,false,false,false,false] rfl rfl (any_of HT_.out (by kernel_rfl)) (fun _ _ _ h=>h) (Or.inl ⟨by rfl,?_⟩) ?_ ?_
       rotate_left
       ·intro w'
        go_simp
        with_reducible rfl
       rotate_left
       ·exact z47a
       refine take_ (i:=1) (N:=some 105) (v:=?_) (a':=?_) #[true,true,true,true,false,false,false,false,false,false,false] rfl rfl (take_ofW HT_.out HW_.out (by kernel_rfl)) (fun _ _ _ h=>h) (Or.inl ⟨by rfl,?_⟩) hHeld ?_ ?_
       rotate_left
       ·rintro w' ⟨s0,s1,s2,s3,s4,s5,s6⟩
        go_simp
        with_reducible rfl
       rotate_left
       ·exact z47a
       refine one_ (i:=4) (N:=some 108) #[true,true,true,true,true,false,false,false,false,false,false] rfl rfl (one_of HT_.out (by kernel_rfl)) (by decide) (fun K hK=>?_)
       refine goes_ Try.func70 (by kernel_rfl) rfl #[.pointer (some ⟨qm,0,none⟩),.int .i64 30] (by rfl) rfl rfl z47x19 ?_
       with_reducible refine (spec_l6Rd_pick.calls k1 qm qj wn 30 qdp qmy w _ ?side1 ?side2 qpp.out).mono ?_
       (case side1=>repeat (first|(with_reducible first|exact qc.out|apply IsS158.alloc|apply IsS158.drewN|apply IsS158.drew|apply IsS158.set_1|refine IsS158.far ?_ qf.out _|refine IsS158.far ?_ qk.out _)|exact qc.out))
       (case side2=>repeat (first|(with_reducible first|exact HB.out|apply below_alloc|apply pw_below_drewN|apply below_drew1|refine below_set ?_ (IsS158.ge qc.out)|refine below_set ?_ qq.out|refine below_set ?_ we.out)|exact HB.out))
       rintro e jg ⟨rfl,hi,hb,hk⟩
       refine ⟨_,rfl,?_⟩
       have n0_:=Aside0.mk (Kd.R_mono (Kd.R_keep (IsS158.apart (show IsS158 w _ qm qj wn from by repeat (first|(with_reducible first|exact qc.out|apply IsS158.alloc|apply IsS158.drewN|apply IsS158.drew|apply IsS158.set_1|refine IsS158.far ?_ qf.out _|refine IsS158.far ?_ qk.out _)|exact qc.out)) z47x23 (by decide)) hk (fun _ h=>h.2)) (fun _ h=>h.1))
       have n1_:=Aside0.mk (KeepBut.blk hk (g':=qb) (o:=.cells #[.int .i64 0,.int .i64 0,.int .i64 0,.int .i64 0,.int .i64 0,.int .i64 0,.int .i64 0] 41 (0,0)) z47x21 ql.out (by simp))
       have n2_:=Aside0.mk (KeepBut.blk hk (g':=qe) (o:=.cells #[.int .i64 qu,.int .i64 3,.int .i64 (wrap64 (1 + qv)),.int .i64 wc,.int .i64 (wrap64 (1 + qz)),.int .i64 0,.int .i64 0] 41 (0,0)) z47x22 qt.out (by simp))
       have n3_:=Aside0.mk (hb)
       have n4_:=Aside0.mk (hi)
       clear HO_7
       clear qg
       clear qd
       clear HB
       clear qc
       have HO_7:=n0_
       have qg:=n1_
       have qd:=n2_
       have HB:=n3_
       have qc:=n4_
       clear n0_ n1_ n2_ n3_ n4_
       (try clear hb)
       (try clear hb2)
       (try clear hk)
       (try clear hi)
       refine hK.out _ _ ⟨(blk_cell qd.out 0).trans rfl,(blk_cell qd.out 1).trans rfl,(blk_cell qd.out 2).trans rfl,(blk_cell qd.out 3).trans rfl,(blk_cell qd.out 4).trans rfl,(blk_cell qd.out 5).trans rfl,(blk_cell qd.out 6).trans rfl⟩ (fun hHeld=>?_)
       clear hK K
       refine norm_ (a':=?_) ?_ ?_
       rotate_left
       ·show Act.put _ (some 108) _ = _
        simp only [Act.put,List.setIfInBounds_toArray,List.set_cons_zero,List.set_cons_succ,i64_w,i32_w]
        rfl
       refine pure_ (i:=5) (N:=some 109) (v:=?_) (a':=?_) #[true,true,true,true,true,true,false,false,false,false,false] rfl rfl (any_of HT_.out (by kernel_rfl)) (fun _ _ _ h=>h) (Or.inl ⟨by rfl,?_⟩) ?_ ?_
       rotate_left
       ·intro w'
        go_simp
        with_reducible rfl
       rotate_left
       ·exact z47a
       refine pure_ (i:=6) (N:=some 110) (v:=?_) (a':=?_) #[true,true,true,true,true,true,true,false,false,false,false] rfl rfl (any_of HT_.out (by kernel_rfl)) (fun _ _ _ h=>h) (Or.inl ⟨by rfl,?_⟩) ?_ ?_
       rotate_left
       ·intro w'
        go_simp
        with_reducible rfl
       rotate_left
       ·exact z47a
       refine pure_ (i:=7) (N:=some 111) (v:=?_) (a':=?_) #[true,true,true,true,true,true,true,true,false,false,false] rfl rfl (any_of HT_.out (by kernel_rfl)) (fun _ _ _ h=>h) (Or.inl ⟨by rfl,?_⟩) ?_ ?_
       rotate_left
       ·intro w'
        go_simp
        with_reducible rfl
       rotate_left
       ·exact z47a
       refine pure_ (i:=8) (N:=some 2) (v:=?_) (a':=?_) #[true,true,true,true,true,true,true,true,true,false,false] rfl rfl (any_of HT_.out (by kernel_rfl)) (fun _ _ _ h=>h) (Or.inl ⟨by rfl,?_⟩) ?_ ?_
       rotate_left
       ·intro w'
        go_simp
        with_reducible rfl
       rotate_left
       ·exact z47a
       refine one_ (i:=9) (N:=none) #[true,true,true,true,true,true,true,true,true,true,false] rfl rfl (one_of HT_.out (by kernel_rfl)) (by decide) (fun K hK=>?_)
       have qqy : jg.cell? ⟨qb,0,none⟩ = some (.int .i64 0):=(blk_cell qg.out 0).trans rfl
       have qpd:=blk_frozen qg.out 0
       have qfa:=qa.out
       have qgj:=qi.out
       have qqx : jg.cell? ⟨qb,1,none⟩ = some (.int .i64 0):=(blk_cell qg.out 1).trans rfl
       have qpc:=blk_frozen qg.out 1
       have qez:=qa.out
       have qgi:=qi.out
       have qqw : jg.cell? ⟨qb,2,none⟩ = some (.int .i64 0):=(blk_cell qg.out 2).trans rfl
       have qpb:=blk_frozen qg.out 2
       have qey:=qa.out
       have qgh:=qi.out
       have qqv : jg.cell? ⟨qb,3,none⟩ = some (.int .i64 0):=(blk_cell qg.out 3).trans rfl
       have qpa:=blk_frozen qg.out 3
       have qex:=qa.out
       have qgg:=qi.out
       have qqu : jg.cell? ⟨qb,4,none⟩ = some (.int .i64 0):=(blk_cell qg.out 4).trans rfl
       have qoz:=blk_frozen qg.out 4
       have qew:=qa.out
       have qgf:=qi.out
       have qqt : jg.cell? ⟨qb,5,none⟩ = some (.int .i64 0):=(blk_cell qg.out 5).trans rfl
       have qoy:=blk_frozen qg.out 5
       have qev:=qa.out
       have qge:=qi.out
       have qqs : jg.cell? ⟨qb,6,none⟩ = some (.int .i64 0):=(blk_cell qg.out 6).trans rfl
       have qox:=blk_frozen qg.out 6
       have qeu:=qa.out
       have qgd:=qi.out
       refine skip_ (w1:=?_) (by rfl) rfl ?_ ?_
       rotate_left
       ·go_simp
        rfl
       refine hK.out _ _ ⟨((cell_far (p:=⟨qb,_,none⟩) qa.out _).trans (((cell_far (p:=⟨qb,_,none⟩) qa.out _).trans (((cell_far (p:=⟨qb,_,none⟩) qa.out _).trans (((cell_far (p:=⟨qb,_,none⟩) qa.out _).trans (((cell_far (p:=⟨qb,_,none⟩) qa.out _).trans (((cell_far (p:=⟨qb,_,none⟩) qa.out _).trans (((cell_far (p:=⟨qb,_,none⟩) qa.out _).trans (hHeld.1)))))))))))))),((cell_far (p:=⟨qb,_,none⟩) qa.out _).trans (((cell_far (p:=⟨qb,_,none⟩) qa.out _).trans (((cell_far (p:=⟨qb,_,none⟩) qa.out _).trans (((cell_far (p:=⟨qb,_,none⟩) qa.out _).trans (((cell_far (p:=⟨qb,_,none⟩) qa.out _).trans (((cell_far (p:=⟨qb,_,none⟩) qa.out _).trans (((cell_far (p:=⟨qb,_,none⟩) qa.out _).trans (hHeld.2.1)))))))))))))),((cell_far (p:=⟨qb,_,none⟩) qa.out _).trans (((cell_far (p:=⟨qb,_,none⟩) qa.out _).trans (((cell_far (p:=⟨qb,_,none⟩) qa.out _).trans (((cell_far (p:=⟨qb,_,none⟩) qa.out _).trans (((cell_far (p:=⟨qb,_,none⟩) qa.out _).trans (((cell_far (p:=⟨qb,_,none⟩) qa.out _).trans (((cell_far (p:=⟨qb,_,none⟩) qa.out _).trans (hHeld.2.2.1)))))))))))))),((cell_far (p:=⟨qb,_,none⟩) qa.out _).trans (((cell_far (p:=⟨qb,_,none⟩) qa.out _).trans (((cell_far (p:=⟨qb,_,none⟩) qa.out _).trans (((cell_far (p:=⟨qb,_,none⟩) qa.out _).trans (((cell_far (p:=⟨qb,_,none⟩) qa.out _).trans (((cell_far (p:=⟨qb,_,none⟩) qa.out _).trans (((cell_far (p:=⟨qb,_,none⟩) qa.out _).trans (hHeld.2.2.2.1)))))))))))))),((cell_far (p:=⟨qb,_,none⟩) qa.out _).trans (((cell_far (p:=⟨qb,_,none⟩) qa.out _).trans (((cell_far (p:=⟨qb,_,none⟩) qa.out _).trans (((cell_far (p:=⟨qb,_,none⟩) qa.out _).trans (((cell_far (p:=⟨qb,_,none⟩) qa.out _).trans (((cell_far (p:=⟨qb,_,none⟩) qa.out _).trans (((cell_far (p:=⟨qb,_,none⟩) qa.out _).trans (hHeld.2.2.2.2.1)))))))))))))),((cell_far (p:=⟨qb,_,none⟩) qa.out _).trans (((cell_far (p:=⟨qb,_,none⟩) qa.out _).trans (((cell_far (p:=⟨qb,_,none⟩) qa.out _).trans (((cell_far (p:=⟨qb,_,none⟩) qa.out _).trans (((cell_far (p:=⟨qb,_,none⟩) qa.out _).trans (((cell_far (p:=⟨qb,_,none⟩) qa.out _).trans (((cell_far (p:=⟨qb,_,none⟩) qa.out _).trans (hHeld.2.2.2.2.2.1)))))))))))))),((cell_far (p:=⟨qb,_,none⟩) qa.out _).trans (((cell_far (p:=⟨qb,_,none⟩) qa.out _).trans (((cell_far (p:=⟨qb,_,none⟩) qa.out _).trans (((cell_far (p:=⟨qb,_,none⟩) qa.out _).trans (((cell_far (p:=⟨qb,_,none⟩) qa.out _).trans (((cell_far (p:=⟨qb,_,none⟩) qa.out _).trans (((cell_far (p:=⟨qb,_,none⟩) qa.out _).trans (hHeld.2.2.2.2.2.2))))))))))))))⟩ (fun hHeld=>?_)
       clear hK K
       refine pure_ (i:=10) (N:=some 4) (v:=?_) (a':=?_) #[true,true,true,true,true,true,true,true,true,true,true] rfl rfl (any_of HT_.out (by kernel_rfl)) (fun _ _ _ h=>h) (Or.inl ⟨by rfl,?_⟩) ?_ ?_
       rotate_left
       ·intro w'
        go_simp
        with_reducible rfl
       rotate_left
       ·exact z47a
       refine done_ (done_of HT_.out (by kernel_rfl)) ?_
       try go_wp2
       refine bodyPost_ret (results_list (rs:=[.tmp 2,.cell 3 41,.tmp 4]) rfl (by simp) (.tmp (.cell qb 41 #[.int .i64 qu,.int .i64 3,.int .i64 (wrap64 (1 + qv)),.int .i64 wc,.int .i64 (wrap64 (1 + qz)),.int .i64 0,.int .i64 0] (0,0) _ rfl z47x1 Try.underlying41 rfl (by kernel_rfl) (.tmp .nil)))) rfl ?_
       exact ⟨_,by first|rfl|(simp [errW_none,errW_some] <;> rfl)|(simp only [← vr];first|rfl|(simp [errW_none,errW_some] <;> rfl))|(simp [*,errW_none,errW_some] <;> rfl),by (with_reducible repeat (first|apply Kd.R_alloc|apply Kd.R_drewN|apply Kd.R_drew));exact Kd.R_mono (Kd.R_far (p:=⟨qb,6,none⟩) (Kd.R_far (p:=⟨qb,5,none⟩) (Kd.R_far (p:=⟨qb,4,none⟩) (Kd.R_far (p:=⟨qb,3,none⟩) (Kd.R_far (p:=⟨qb,2,none⟩) (Kd.R_far (p:=⟨qb,1,none⟩) (Kd.R_far (p:=⟨qb,0,none⟩) (Kd.R_mono HO_7.out (fun k_ hk=>(⟨hk,hk.1⟩ : _ ∧ k_ ≠ qb))) (fun _ hk=>hk.2) (.int .i64 qu)) (fun _ hk=>hk.2) (.int .i64 3)) (fun _ hk=>hk.2) (.int .i64 (wrap64 (1 + qv)))) (fun _ hk=>hk.2) (.int .i64 wc)) (fun _ hk=>hk.2) (.int .i64 (wrap64 (1 + qz)))) (fun _ hk=>hk.2) (.int .i64 0)) (fun _ hk=>hk.2) (.int .i64 0)) (fun _ hk=>trivial),by repeat (first|(with_reducible first|exact HB.out|apply below_alloc|apply pw_below_drewN|apply below_drew1|refine below_set ?_ (IsS158.ge qc.out)|refine below_set ?_ qq.out|refine below_set ?_ we.out)|exact HB.out)⟩
      rw [if_pos c73] at H
      have qcn : decide (0 < (qh.length : Int)) = true:=decide_eq_true c73
      have qcm : decide (0 < qh.length) = true:=decide_eq_true (by omega)
      clear c73
      replace H:=Option.bind_eq_some_iff.mp H
      obtain ⟨⟨qn,gh⟩,qih,H⟩:=H
      replace H : (if 0 ≤ qn then (if qn < (qh.length : Int) then ((spec_l6Rd_pick.f k1 qj gh 30).bind fun wz=>(some (qh,(rd_T41 qh qn).f0,(rd_T41 qh qn).f1,(rd_T41 qh qn).f2,(rd_T41 qh qn).f3,(rd_T41 qh qn).f4,(rd_T41 qh qn).f5,(rd_T41 qh qn).f6,wrap64 (qo + (wrap64 ((wrap64 (Int.tdiv wz.1 29)) * 100)))))) else (none)) else (none)) = some (r1,r2,r3,r4,r5,r6,r7,r8,r9):=H
      have A74:=Aside0.mk qih
      clear qih
      by_cases c75 : 0 ≤ qn
      rotate_left
      ·rw [if_neg c75] at H
       exact absurd H (by simp)
      rw [if_pos c75] at H
      have qhs : decide (0 ≤ qn) = true:=decide_eq_true c75
      clear c75
      by_cases c76 : qn < (qh.length : Int)
      rotate_left
      ·rw [if_neg c76] at H
       exact absurd H (by simp)
      rw [if_pos c76] at H
      have qhr : decide (qn < (qh.length : Int)) = true:=decide_eq_true c76
      clear c76
      replace H:=Option.bind_eq_some_iff.mp H
      obtain ⟨⟨qdq,qmz⟩,qig,H⟩:=H
      replace H : (some (qh,(rd_T41 qh qn).f0,(rd_T41 qh qn).f1,(rd_T41 qh qn).f2,(rd_T41 qh qn).f3,(rd_T41 qh qn).f4,(rd_T41 qh qn).f5,(rd_T41 qh qn).f6,wrap64 (qo + (wrap64 ((wrap64 (Int.tdiv qdq 29)) * 100))))) = some (r1,r2,r3,r4,r5,r6,r7,r8,r9):=H
      have A77:=Aside0.mk qig
      clear qig
      simp only [Option.some.injEq,Prod.mk.injEq] at H
      obtain ⟨rfl,rfl,rfl,rfl,rfl,rfl,rfl,rfl,rfl⟩:=H
      try go_wp2_with (first|((with_reducible refine gate_callee (f:=99) rfl ?_);refine goesL_ (some 45) rfl rfl Try.func99 (by kernel_rfl) rfl #[.pointer (some ⟨qm,0,none⟩)] rfl z47x19 ?_;(with_reducible refine (spec_l71Key.calls k1 qm qj wb qu vm w _ ?side1 ?side2 A42.out).mono ?_);(case side1=>repeat (first|(with_reducible first|exact qc.out|apply IsS158.alloc|apply IsS158.drewN|apply IsS158.drew|apply IsS158.set_1|refine IsS158.far ?_ qf.out _)|exact qc.out));(case side2=>repeat (first|(with_reducible first|exact HB.out|apply below_alloc|apply pw_below_drewN|apply below_drew1|refine below_set ?_ (IsS158.ge qc.out)|refine below_set ?_ qq.out)|exact HB.out));rintro e w78 ⟨rfl,hi,hb,hk⟩; refine ⟨_,rfl,?_⟩; have n0_:=Aside0.mk (Kd.R_mono (Kd.R_keep (IsS158.apart (show IsS158 w _ qm qj wb from by repeat (first|(with_reducible first|exact qc.out|apply IsS158.alloc|apply IsS158.drewN|apply IsS158.drew|apply IsS158.set_1|refine IsS158.far ?_ qf.out _)|exact qc.out)) z47x23 (by decide)) hk (fun _ h=>h.2)) (fun _ h=>h.1));have n1_:=Aside0.mk (KeepBut.blk hk (g':=qb) (o:=.cells #[.int .i64 0,.int .i64 0,.int .i64 0,.int .i64 0,.int .i64 0,.int .i64 0,.int .i64 0] 41 (0,0)) z47x21 ql.out (by simp));have n2_:=Aside0.mk (hb);have n3_:=Aside0.mk (hi);clear HO_7;clear qg;clear HB;clear qc;have HO_7:=n0_;have qg:=n1_;have HB:=n2_;have qc:=n3_;clear n0_ n1_ n2_ n3_;(try clear hb);(try clear hb2);(try clear hk);(try clear hi))|((with_reducible refine gate_callee (f:=70) rfl ?_);refine goesL_ (some 47) rfl rfl Try.func70 (by kernel_rfl) rfl #[.pointer (some ⟨qm,0,none⟩),.int .i64 3] rfl z47x19 ?_;(with_reducible refine (spec_l6Rd_pick.calls k1 qm qj vm 3 qv vl w _ ?side1 ?side2 A43.out).mono ?_);(case side1=>repeat (first|(with_reducible first|exact qc.out|apply IsS158.alloc|apply IsS158.drewN|apply IsS158.drew|apply IsS158.set_1|refine IsS158.far ?_ qf.out _)|exact qc.out));(case side2=>repeat (first|(with_reducible first|exact HB.out|apply below_alloc|apply pw_below_drewN|apply below_drew1|refine below_set ?_ (IsS158.ge qc.out)|refine below_set ?_ qq.out)|exact HB.out));rintro e w79 ⟨rfl,hi,hb,hk⟩; refine ⟨_,rfl,?_⟩; have n0_:=Aside0.mk (Kd.R_mono (Kd.R_keep (IsS158.apart (show IsS158 w _ qm qj vm from by repeat (first|(with_reducible first|exact qc.out|apply IsS158.alloc|apply IsS158.drewN|apply IsS158.drew|apply IsS158.set_1|refine IsS158.far ?_ qf.out _)|exact qc.out)) z47x23 (by decide)) hk (fun _ h=>h.2)) (fun _ h=>h.1));have n1_:=Aside0.mk (KeepBut.blk hk (g':=qb) (o:=.cells #[.int .i64 0,.int .i64 0,.int .i64 0,.int .i64 0,.int .i64 0,.int .i64 0,.int .i64 0] 41 (0,0)) z47x21 ql.out (by simp));have n2_:=Aside0.mk (hb);have n3_:=Aside0.mk (hi);clear HO_7;clear qg;clear HB;clear qc;have HO_7:=n0_;have qg:=n1_;have HB:=n2_;have qc:=n3_;clear n0_ n1_ n2_ n3_;(try clear hb);(try clear hb2);(try clear hk);(try clear hi))|((with_reducible refine gate_callee (f:=70) rfl ?_);refine goesL_ (some 51) rfl rfl Try.func70 (by kernel_rfl) rfl #[.pointer (some ⟨qm,0,none⟩),.int .i64 3] rfl z47x19 ?_;(with_reducible refine (spec_l6Rd_pick.calls k1 qm qj vl 3 ub wx w _ ?side1 ?side2 A44.out).mono ?_);(case side1=>repeat (first|(with_reducible first|exact qc.out|apply IsS158.alloc|apply IsS158.drewN|apply IsS158.drew|apply IsS158.set_1|refine IsS158.far ?_ qf.out _)|exact qc.out));(case side2=>repeat (first|(with_reducible first|exact HB.out|apply below_alloc|apply pw_below_drewN|apply below_drew1|refine below_set ?_ (IsS158.ge qc.out)|refine below_set ?_ qq.out)|exact HB.out));rintro e w80 ⟨rfl,hi,hb,hk⟩; refine ⟨_,rfl,?_⟩; have n0_:=Aside0.mk (Kd.R_mono (Kd.R_keep (IsS158.apart (show IsS158 w _ qm qj vl from by repeat (first|(with_reducible first|exact qc.out|apply IsS158.alloc|apply IsS158.drewN|apply IsS158.drew|apply IsS158.set_1|refine IsS158.far ?_ qf.out _)|exact qc.out)) z47x23 (by decide)) hk (fun _ h=>h.2)) (fun _ h=>h.1));have n1_:=Aside0.mk (KeepBut.blk hk (g':=qb) (o:=.cells #[.int .i64 0,.int .i64 0,.int .i64 0,.int .i64 0,.int .i64 0,.int .i64 0,.int .i64 0] 41 (0,0)) z47x21 ql.out (by simp));have n2_:=Aside0.mk (hb);have n3_:=Aside0.mk (hi);clear HO_7;clear qg;clear HB;clear qc;have HO_7:=n0_;have qg:=n1_;have HB:=n2_;have qc:=n3_;clear n0_ n1_ n2_ n3_;(try clear hb);(try clear hb2);(try clear hk);(try clear hi))|((with_reducible refine gate_callee (f:=70) rfl ?_);refine goesL_ (some 55) rfl rfl Try.func70 (by kernel_rfl) rfl #[.pointer (some ⟨qm,0,none⟩),.int .i64 9] rfl z47x19 ?_;(with_reducible refine (spec_l6Rd_pick.calls k1 qm qj wx 9 qz wv w _ ?side1 ?side2 A46.out).mono ?_);(case side1=>repeat (first|(with_reducible first|exact qc.out|apply IsS158.alloc|apply IsS158.drewN|apply IsS158.drew|apply IsS158.set_1|refine IsS158.far ?_ qf.out _)|exact qc.out));(case side2=>repeat (first|(with_reducible first|exact HB.out|apply below_alloc|apply pw_below_drewN|apply below_drew1|refine below_set ?_ (IsS158.ge qc.out)|refine below_set ?_ qq.out)|exact HB.out));rintro e w81 ⟨rfl,hi,hb,hk⟩; refine ⟨_,rfl,?_⟩; have n0_:=Aside0.mk (Kd.R_mono (Kd.R_keep (IsS158.apart (show IsS158 w _ qm qj wx from by repeat (first|(with_reducible first|exact qc.out|apply IsS158.alloc|apply IsS158.drewN|apply IsS158.drew|apply IsS158.set_1|refine IsS158.far ?_ qf.out _)|exact qc.out)) z47x23 (by decide)) hk (fun _ h=>h.2)) (fun _ h=>h.1));have n1_:=Aside0.mk (KeepBut.blk hk (g':=qb) (o:=.cells #[.int .i64 0,.int .i64 0,.int .i64 0,.int .i64 0,.int .i64 0,.int .i64 0,.int .i64 0] 41 (0,0)) z47x21 ql.out (by simp));have n2_:=Aside0.mk (hb);have n3_:=Aside0.mk (hi);clear HO_7;clear qg;clear HB;clear qc;have HO_7:=n0_;have qg:=n1_;have HB:=n2_;have qc:=n3_;clear n0_ n1_ n2_ n3_;(try clear hb);(try clear hb2);(try clear hk);(try clear hi))|((with_reducible refine gate_dst (N:=10) rfl ?_);refine box_event ?hg (N:=10) ?hd (cs:=#[.int .i64 0,.int .i64 0,.int .i64 0,.int .i64 0,.int .i64 0,.int .i64 0,.int .i64 0]) (t:=41) ?hr ?_;(case hd=>rfl);(case hg=>rfl);(case hr=>first|(go_simp;done)|(go_simp;rfl));intro qe hg w82 hbox hb;have n0_:=Aside0.mk (Kd.R_below (Kd.R_elderB z47x23 qe (Nat.le_of_eq hg.symm)) hb);have n1_:=Aside0.mk (blk_below (g:=qb) (o:=.cells #[.int .i64 0,.int .i64 0,.int .i64 0,.int .i64 0,.int .i64 0,.int .i64 0,.int .i64 0] 41 (0,0)) z47x21 hb);have n2_:=Aside0.mk (IsS158.below z47x18 hb);have n3_:=Aside0.mk (below_step z47x17 hb);have n4_:=Aside0.mk (hbox);have n5_:=Aside0.mk ((z47x15 : w.heap.size ≤ qe));have n6_:=Aside0.mk ((z47x15 : w.heap.size ≤ qe));have n7_:=Aside0.mk ((z47x8 : qb ≠ qe));have n8_:=Aside0.mk ((z47x7 : qe ≠ qb));have n9_:=Aside0.mk ((z47x12 : qm ≠ qe));have n10_:=Aside0.mk ((z47x10 : qe ≠ qm));clear HO_7;clear qg;clear qc;clear HB;have HO_7:=n0_;have qg:=n1_;have qc:=n2_;have HB:=n3_;have qd:=n4_;have uo:=n5_;have we:=n6_;have qi:=n7_;have qa:=n8_;have qk:=n9_;have qt:=n10_;clear n0_ n1_ n2_ n3_ n4_ n5_ n6_ n7_ n8_ n9_ n10_;clear hb hbox hg;have qri:=qa.out;have qra:=qi.out;have qrh:=qt.out;have qqz:=qk.out;have qcj : w82.cell? ⟨qe,0,none⟩ = some (.int .i64 0):=(blk_cell qd.out 0).trans rfl;have qci : w82.cell? ⟨qe,1,none⟩ = some (.int .i64 0):=(blk_cell qd.out 1).trans rfl;have qch : w82.cell? ⟨qe,2,none⟩ = some (.int .i64 0):=(blk_cell qd.out 2).trans rfl;have qcg : w82.cell? ⟨qe,3,none⟩ = some (.int .i64 0):=(blk_cell qd.out 3).trans rfl;have qcf : w82.cell? ⟨qe,4,none⟩ = some (.int .i64 0):=(blk_cell qd.out 4).trans rfl;have qce : w82.cell? ⟨qe,5,none⟩ = some (.int .i64 0):=(blk_cell qd.out 5).trans rfl;have qcd : w82.cell? ⟨qe,6,none⟩ = some (.int .i64 0):=(blk_cell qd.out 6).trans rfl;have qbv:=blk_frozen qd.out 0;have qbu:=blk_frozen qd.out 1;have qbt:=blk_frozen qd.out 2;have qbs:=blk_frozen qd.out 3;have qbr:=blk_frozen qd.out 4;have qbq:=blk_frozen qd.out 5;have qbp:=blk_frozen qd.out 6)|((with_reducible refine gate_callee (f:=70) rfl ?_);refine goesL_ (some 59) rfl rfl Try.func70 (by kernel_rfl) rfl #[.pointer (some ⟨qm,0,none⟩),.int .i64 12] rfl z47x19 ?_;(with_reducible refine (spec_l6Rd_pick.calls k1 qm qj wv 12 wi wn w _ ?side1 ?side2 A47.out).mono ?_);(case side1=>repeat (first|(with_reducible first|exact qc.out|apply IsS158.alloc|apply IsS158.drewN|apply IsS158.drew|apply IsS158.set_1|refine IsS158.far ?_ qf.out _|refine IsS158.far ?_ qk.out _)|exact qc.out));(case side2=>repeat (first|(with_reducible first|exact HB.out|apply below_alloc|apply pw_below_drewN|apply below_drew1|refine below_set ?_ (IsS158.ge qc.out)|refine below_set ?_ qq.out|refine below_set ?_ we.out)|exact HB.out));rintro e w86 ⟨rfl,hi,hb,hk⟩; refine ⟨_,rfl,?_⟩; have n0_:=Aside0.mk (Kd.R_mono (Kd.R_keep (IsS158.apart (show IsS158 w _ qm qj wv from by repeat (first|(with_reducible first|exact qc.out|apply IsS158.alloc|apply IsS158.drewN|apply IsS158.drew|apply IsS158.set_1|refine IsS158.far ?_ qf.out _|refine IsS158.far ?_ qk.out _)|exact qc.out)) z47x6 (by decide)) hk (fun _ h=>h.2)) (fun _ h=>h.1));have n1_:=Aside0.mk (KeepBut.blk hk (g':=qb) (o:=.cells #[.int .i64 0,.int .i64 0,.int .i64 0,.int .i64 0,.int .i64 0,.int .i64 0,.int .i64 0] 41 (0,0)) z47x4 ql.out (by simp));have n2_:=Aside0.mk (KeepBut.blk hk (g':=qe) (o:=.cells #[.int .i64 qu,.int .i64 3,.int .i64 (wrap64 (1 + qv)),.int .i64 wc,.int .i64 (wrap64 (1 + qz)),.int .i64 0,.int .i64 0] 41 (0,0)) z47x2 qt.out (by simp));have n3_:=Aside0.mk (hb);have n4_:=Aside0.mk (hi);clear HO_7;clear qg;clear qd;clear HB;clear qc;have HO_7:=n0_;have qg:=n1_;have qd:=n2_;have HB:=n3_;have qc:=n4_;clear n0_ n1_ n2_ n3_ n4_;(try clear hb);(try clear hb2);(try clear hk);(try clear hi);obtain ⟨qum,qpi,qpe⟩:=Kd.R_slice HO_7.out;subst qpe)|((with_reducible refine gate_callee (f:=70) rfl ?_);refine goesL_ (some 73) rfl rfl Try.func70 (by kernel_rfl) rfl #[.pointer (some ⟨qm,0,none⟩),.int .i64 (qh.length : Int)] rfl z47x19 ?_;(with_reducible refine (spec_l6Rd_pick.calls k1 qm qj wn (qh.length : Int) qn gh w _ ?side1 ?side2 A74.out).mono ?_);(case side1=>repeat (first|(with_reducible first|exact qc.out|apply IsS158.alloc|apply IsS158.drewN|apply IsS158.drew|apply IsS158.set_1|refine IsS158.far ?_ qf.out _|refine IsS158.far ?_ qk.out _)|exact qc.out));(case side2=>repeat (first|(with_reducible first|exact HB.out|apply below_alloc|apply pw_below_drewN|apply below_drew1|refine below_set ?_ (IsS158.ge qc.out)|refine below_set ?_ qq.out|refine below_set ?_ we.out)|exact HB.out));rintro e w88 ⟨rfl,hi,hb,hk⟩; refine ⟨_,rfl,?_⟩; have n0_:=Aside0.mk (Kd.R_mono (Kd.R_keep (IsS158.apart (show IsS158 w _ qm qj wn from by repeat (first|(with_reducible first|exact qc.out|apply IsS158.alloc|apply IsS158.drewN|apply IsS158.drew|apply IsS158.set_1|refine IsS158.far ?_ qf.out _|refine IsS158.far ?_ qk.out _)|exact qc.out)) z47x23 (by decide)) hk (fun _ h=>h.2)) (fun _ h=>h.1));have n1_:=Aside0.mk (KeepBut.blk hk (g':=qb) (o:=.cells #[.int .i64 0,.int .i64 0,.int .i64 0,.int .i64 0,.int .i64 0,.int .i64 0,.int .i64 0] 41 (0,0)) z47x21 ql.out (by simp));have n2_:=Aside0.mk (KeepBut.blk hk (g':=qe) (o:=.cells #[.int .i64 qu,.int .i64 3,.int .i64 (wrap64 (1 + qv)),.int .i64 wc,.int .i64 (wrap64 (1 + qz)),.int .i64 0,.int .i64 0] 41 (0,0)) z47x22 qt.out (by simp));have n3_:=Aside0.mk (hb);have n4_:=Aside0.mk (hi);clear HO_7;clear qg;clear qd;clear HB;clear qc;have HO_7:=n0_;have qg:=n1_;have qd:=n2_;have HB:=n3_;have qc:=n4_;clear n0_ n1_ n2_ n3_ n4_;(try clear hb);(try clear hb2);(try clear hk);(try clear hi);have qba : 0 ≤ (qn : Int):=of_decide_eq_true (by first|(with_reducible assumption)|assumption);have qaz : qn < (qh.length : Int):=of_decide_eq_true (by first|(with_reducible assumption)|assumption);obtain ⟨qhw,qph,qbh,qbg,qbf,qbe,qbd,qbc,qbb⟩:=at_T41 (Kd.R_reads' HO_7.out).2.2 qn qba qaz;cases qph;replace qba:=eq_true qba;replace qaz:=eq_true qaz;have qcc : w88.cell? ⟨qe,0,none⟩ = some (.int .i64 qu):=(blk_cell qd.out 0).trans rfl;have qcb : w88.cell? ⟨qe,1,none⟩ = some (.int .i64 3):=(blk_cell qd.out 1).trans rfl;have qca : w88.cell? ⟨qe,2,none⟩ = some (.int .i64 (wrap64 (1 + qv))):=(blk_cell qd.out 2).trans rfl;have qbz : w88.cell? ⟨qe,3,none⟩ = some (.int .i64 wc):=(blk_cell qd.out 3).trans rfl;have qby : w88.cell? ⟨qe,4,none⟩ = some (.int .i64 (wrap64 (1 + qz))):=(blk_cell qd.out 4).trans rfl;have qbx : w88.cell? ⟨qe,5,none⟩ = some (.int .i64 0):=(blk_cell qd.out 5).trans rfl;have qbw : w88.cell? ⟨qe,6,none⟩ = some (.int .i64 0):=(blk_cell qd.out 6).trans rfl;have qbo:=blk_frozen qd.out 0;have qbn:=blk_frozen qd.out 1;have qbm:=blk_frozen qd.out 2;have qbl:=blk_frozen qd.out 3;have qbk:=blk_frozen qd.out 4;have qbj:=blk_frozen qd.out 5;have qbi:=blk_frozen qd.out 6))
      have n0_ : Aside0 (Kd.R k41 41 (((((((w88.setCell ⟨qe,0,none⟩ (.int .i64 ((rd_T41 qh qn).f0))).setCell ⟨qe,1,none⟩ (.int .i64 ((rd_T41 qh qn).f1))).setCell ⟨qe,2,none⟩ (.int .i64 ((rd_T41 qh qn).f2))).setCell ⟨qe,3,none⟩ (.int .i64 ((rd_T41 qh qn).f3))).setCell ⟨qe,4,none⟩ (.int .i64 ((rd_T41 qh qn).f4))).setCell ⟨qe,5,none⟩ (.int .i64 ((rd_T41 qh qn).f5))).setCell ⟨qe,6,none⟩ (.int .i64 ((rd_T41 qh qn).f6))) w.heap.size (fun k_=>k_ ≠ qb ∧ k_ ≠ qe) (.slice (some qhw) qh.length qpi) qh):=⟨by (with_reducible repeat (first|apply Kd.R_alloc|apply Kd.R_drewN|apply Kd.R_drew));exact Kd.R_mono (Kd.R_far (p:=⟨qe,6,none⟩) (Kd.R_far (p:=⟨qe,5,none⟩) (Kd.R_far (p:=⟨qe,4,none⟩) (Kd.R_far (p:=⟨qe,3,none⟩) (Kd.R_far (p:=⟨qe,2,none⟩) (Kd.R_far (p:=⟨qe,1,none⟩) (Kd.R_far (p:=⟨qe,0,none⟩) (Kd.R_mono HO_7.out (fun k_ hk=>(⟨hk,hk.2⟩ : _ ∧ k_ ≠ qe))) (fun _ hk=>hk.2) (.int .i64 ((rd_T41 qh qn).f0))) (fun _ hk=>hk.2) (.int .i64 ((rd_T41 qh qn).f1))) (fun _ hk=>hk.2) (.int .i64 ((rd_T41 qh qn).f2))) (fun _ hk=>hk.2) (.int .i64 ((rd_T41 qh qn).f3))) (fun _ hk=>hk.2) (.int .i64 ((rd_T41 qh qn).f4))) (fun _ hk=>hk.2) (.int .i64 ((rd_T41 qh qn).f5))) (fun _ hk=>hk.2) (.int .i64 ((rd_T41 qh qn).f6))) (fun _ hk=>⟨hk.1.1,hk.1.2⟩)⟩
      have n1_ : Aside0 ((((((((w88.setCell ⟨qe,0,none⟩ (.int .i64 ((rd_T41 qh qn).f0))).setCell ⟨qe,1,none⟩ (.int .i64 ((rd_T41 qh qn).f1))).setCell ⟨qe,2,none⟩ (.int .i64 ((rd_T41 qh qn).f2))).setCell ⟨qe,3,none⟩ (.int .i64 ((rd_T41 qh qn).f3))).setCell ⟨qe,4,none⟩ (.int .i64 ((rd_T41 qh qn).f4))).setCell ⟨qe,5,none⟩ (.int .i64 ((rd_T41 qh qn).f5))).setCell ⟨qe,6,none⟩ (.int .i64 ((rd_T41 qh qn).f6))).heap[qb]? = some (.cells #[.int .i64 0,.int .i64 0,.int .i64 0,.int .i64 0,.int .i64 0,.int .i64 0,.int .i64 0] 41 (0,0))):=⟨by (with_reducible repeat (first|refine blk_drewN ?_ _|refine blk_drew ?_|refine blk_alloc ?_ _));refine blk_far ?_ qi.out _;(with_reducible repeat (first|refine blk_drewN ?_ _|refine blk_drew ?_|refine blk_alloc ?_ _));refine blk_far ?_ qi.out _;(with_reducible repeat (first|refine blk_drewN ?_ _|refine blk_drew ?_|refine blk_alloc ?_ _));refine blk_far ?_ qi.out _;(with_reducible repeat (first|refine blk_drewN ?_ _|refine blk_drew ?_|refine blk_alloc ?_ _));refine blk_far ?_ qi.out _;(with_reducible repeat (first|refine blk_drewN ?_ _|refine blk_drew ?_|refine blk_alloc ?_ _));refine blk_far ?_ qi.out _;(with_reducible repeat (first|refine blk_drewN ?_ _|refine blk_drew ?_|refine blk_alloc ?_ _));refine blk_far ?_ qi.out _;(with_reducible repeat (first|refine blk_drewN ?_ _|refine blk_drew ?_|refine blk_alloc ?_ _));refine blk_far ?_ qi.out _;(with_reducible repeat (first|refine blk_drewN ?_ _|refine blk_drew ?_|refine blk_alloc ?_ _));exact qg.out⟩
      have n2_ : Aside0 ((((((((w88.setCell ⟨qe,0,none⟩ (.int .i64 ((rd_T41 qh qn).f0))).setCell ⟨qe,1,none⟩ (.int .i64 ((rd_T41 qh qn).f1))).setCell ⟨qe,2,none⟩ (.int .i64 ((rd_T41 qh qn).f2))).setCell ⟨qe,3,none⟩ (.int .i64 ((rd_T41 qh qn).f3))).setCell ⟨qe,4,none⟩ (.int .i64 ((rd_T41 qh qn).f4))).setCell ⟨qe,5,none⟩ (.int .i64 ((rd_T41 qh qn).f5))).setCell ⟨qe,6,none⟩ (.int .i64 ((rd_T41 qh qn).f6))).heap[qe]? = some (.cells #[.int .i64 ((rd_T41 qh qn).f0),.int .i64 ((rd_T41 qh qn).f1),.int .i64 ((rd_T41 qh qn).f2),.int .i64 ((rd_T41 qh qn).f3),.int .i64 ((rd_T41 qh qn).f4),.int .i64 ((rd_T41 qh qn).f5),.int .i64 ((rd_T41 qh qn).f6)] 41 (0,0))):=⟨by (with_reducible repeat (first|refine blk_drewN ?_ _|refine blk_drew ?_|refine blk_alloc ?_ _));refine blk_put (cs:=#[.int .i64 ((rd_T41 qh qn).f0),.int .i64 ((rd_T41 qh qn).f1),.int .i64 ((rd_T41 qh qn).f2),.int .i64 ((rd_T41 qh qn).f3),.int .i64 ((rd_T41 qh qn).f4),.int .i64 ((rd_T41 qh qn).f5),.int .i64 0]) ?_ 6 _ rfl;(with_reducible repeat (first|refine blk_drewN ?_ _|refine blk_drew ?_|refine blk_alloc ?_ _));refine blk_put (cs:=#[.int .i64 ((rd_T41 qh qn).f0),.int .i64 ((rd_T41 qh qn).f1),.int .i64 ((rd_T41 qh qn).f2),.int .i64 ((rd_T41 qh qn).f3),.int .i64 ((rd_T41 qh qn).f4),.int .i64 0,.int .i64 0]) ?_ 5 _ rfl;(with_reducible repeat (first|refine blk_drewN ?_ _|refine blk_drew ?_|refine blk_alloc ?_ _));refine blk_put (cs:=#[.int .i64 ((rd_T41 qh qn).f0),.int .i64 ((rd_T41 qh qn).f1),.int .i64 ((rd_T41 qh qn).f2),.int .i64 ((rd_T41 qh qn).f3),.int .i64 (wrap64 (1 + qz)),.int .i64 0,.int .i64 0]) ?_ 4 _ rfl;(with_reducible repeat (first|refine blk_drewN ?_ _|refine blk_drew ?_|refine blk_alloc ?_ _));refine blk_put (cs:=#[.int .i64 ((rd_T41 qh qn).f0),.int .i64 ((rd_T41 qh qn).f1),.int .i64 ((rd_T41 qh qn).f2),.int .i64 wc,.int .i64 (wrap64 (1 + qz)),.int .i64 0,.int .i64 0]) ?_ 3 _ rfl;(with_reducible repeat (first|refine blk_drewN ?_ _|refine blk_drew ?_|refine blk_alloc ?_ _));refine blk_put (cs:=#[.int .i64 ((rd_T41 qh qn).f0),.int .i64 ((rd_T41 qh qn).f1),.int .i64 (wrap64 (1 + qv)),.int .i64 wc,.int .i64 (wrap64 (1 + qz)),.int .i64 0,.int .i64 0]) ?_ 2 _ rfl;(with_reducible repeat (first|refine blk_drewN ?_ _|refine blk_drew ?_|refine blk_alloc ?_ _));refine blk_put (cs:=#[.int .i64 ((rd_T41 qh qn).f0),.int .i64 3,.int .i64 (wrap64 (1 + qv)),.int .i64 wc,.int .i64 (wrap64 (1 + qz)),.int .i64 0,.int .i64 0]) ?_ 1 _ rfl;(with_reducible repeat (first|refine blk_drewN ?_ _|refine blk_drew ?_|refine blk_alloc ?_ _));refine blk_put (cs:=#[.int .i64 qu,.int .i64 3,.int .i64 (wrap64 (1 + qv)),.int .i64 wc,.int .i64 (wrap64 (1 + qz)),.int .i64 0,.int .i64 0]) ?_ 0 _ rfl;(with_reducible repeat (first|refine blk_drewN ?_ _|refine blk_drew ?_|refine blk_alloc ?_ _));exact qd.out⟩
      have n3_ : Aside0 (IsS158 w (((((((w88.setCell ⟨qe,0,none⟩ (.int .i64 ((rd_T41 qh qn).f0))).setCell ⟨qe,1,none⟩ (.int .i64 ((rd_T41 qh qn).f1))).setCell ⟨qe,2,none⟩ (.int .i64 ((rd_T41 qh qn).f2))).setCell ⟨qe,3,none⟩ (.int .i64 ((rd_T41 qh qn).f3))).setCell ⟨qe,4,none⟩ (.int .i64 ((rd_T41 qh qn).f4))).setCell ⟨qe,5,none⟩ (.int .i64 ((rd_T41 qh qn).f5))).setCell ⟨qe,6,none⟩ (.int .i64 ((rd_T41 qh qn).f6))) qm qj gh):=⟨by repeat (first|(with_reducible first|exact qc.out|apply IsS158.alloc|apply IsS158.drewN|apply IsS158.drew|apply IsS158.set_1|refine IsS158.far ?_ qf.out _|refine IsS158.far ?_ qk.out _)|exact qc.out)⟩
      have n4_ : Aside0 (Below w.heap.size w (((((((w88.setCell ⟨qe,0,none⟩ (.int .i64 ((rd_T41 qh qn).f0))).setCell ⟨qe,1,none⟩ (.int .i64 ((rd_T41 qh qn).f1))).setCell ⟨qe,2,none⟩ (.int .i64 ((rd_T41 qh qn).f2))).setCell ⟨qe,3,none⟩ (.int .i64 ((rd_T41 qh qn).f3))).setCell ⟨qe,4,none⟩ (.int .i64 ((rd_T41 qh qn).f4))).setCell ⟨qe,5,none⟩ (.int .i64 ((rd_T41 qh qn).f5))).setCell ⟨qe,6,none⟩ (.int .i64 ((rd_T41 qh qn).f6)))):=⟨by repeat (first|(with_reducible first|exact HB.out|apply below_alloc|apply pw_below_drewN|apply below_drew1|refine below_set ?_ (IsS158.ge qc.out)|refine below_set ?_ qq.out|refine below_set ?_ we.out)|exact HB.out)⟩
      (try clear HO_7)
      (try clear qg)
      (try clear qd)
      (try clear qc)
      (try clear HB)
      generalize (((((((w88.setCell ⟨qe,0,none⟩ (.int .i64 ((rd_T41 qh qn).f0))).setCell ⟨qe,1,none⟩ (.int .i64 ((rd_T41 qh qn).f1))).setCell ⟨qe,2,none⟩ (.int .i64 ((rd_T41 qh qn).f2))).setCell ⟨qe,3,none⟩ (.int .i64 ((rd_T41 qh qn).f3))).setCell ⟨qe,4,none⟩ (.int .i64 ((rd_T41 qh qn).f4))).setCell ⟨qe,5,none⟩ (.int .i64 ((rd_T41 qh qn).f5))).setCell ⟨qe,6,none⟩ (.int .i64 ((rd_T41 qh qn).f6))) = w90 at n0_ n1_ n2_ n3_ n4_ ⊢
      have HO_7:=n0_
      have qg:=n1_
      have qd:=n2_
      have qc:=n3_
      have HB:=n4_
      clear n0_ n1_ n2_ n3_ n4_
      have n0_:=Aside0.mk (Kd.R_drew HO_7.out)
      have n1_:=Aside0.mk (blk_drew qg.out)
      have n2_:=Aside0.mk (blk_drew qd.out)
      have n3_:=Aside0.mk (IsS158.drew qc.out)
      have n4_:=Aside0.mk (below_drew1 HB.out)
      clear HO_7
      clear qg
      clear qd
      clear qc
      clear HB
      have HO_7:=n0_
      have qg:=n1_
      have qd:=n2_
      have qc:=n3_
      have HB:=n4_
      clear n0_ n1_ n2_ n3_ n4_
      refine start_ (n:=11) (S:=fun w' => w'.cell? ⟨qe,0,none⟩ = some (.int .i64 ((rd_T41 qh qn).f0)) ∧ w'.cell? ⟨qe,1,none⟩ = some (.int .i64 ((rd_T41 qh qn).f1)) ∧ w'.cell? ⟨qe,2,none⟩ = some (.int .i64 ((rd_T41 qh qn).f2)) ∧ w'.cell? ⟨qe,3,none⟩ = some (.int .i64 ((rd_T41 qh qn).f3)) ∧ w'.cell? ⟨qe,4,none⟩ = some (.int .i64 ((rd_T41 qh qn).f4)) ∧ w'.cell? ⟨qe,5,none⟩ = some (.int .i64 ((rd_T41 qh qn).f5)) ∧ w'.cell? ⟨qe,6,none⟩ = some (.int .i64 ((rd_T41 qh qn).f6))) (ds:=[]) #[false,false,false,false,false,false,false,false,false,false,false] (by kernel_rfl) rfl rfl ⟨(blk_cell qd.out 0).trans rfl,(blk_cell qd.out 1).trans rfl,(blk_cell qd.out 2).trans rfl,(blk_cell qd.out 3).trans rfl,(blk_cell qd.out 4).trans rfl,(blk_cell qd.out 5).trans rfl,(blk_cell qd.out 6).trans rfl⟩ (fun hHeld=>?_);refine with_tabW spec_DrawCacheWith.tab24 spec_DrawCacheWith.bits24 (fun HT_ HW_=>?_)
      generalize w90.drew = w91 at HO_7 qg qd qc HB hHeld ⊢
      refine pure_ (i:=0) (N:=some 104) (v:=?_) (a':=?_) #[true,false,false,false,false,false,false,false,false,false,false] rfl rfl (any_of HT_.out (by kernel_rfl)) (fun _ _ _ h=>h) (Or.inl ⟨by rfl,?_⟩) ?_ ?_
      rotate_left
      ·intro w'
       go_simp
       with_reducible rfl
      rotate_left
      ·exact z47a
      refine pure_ (i:=2) (N:=some 106) (v:=?_) (a':=?_) #[true,false,true,false,false,false,false,false,false,false,false] rfl rfl (any_of HT_.out (by kernel_rfl)) (fun _ _ _ h=>h) (Or.inl ⟨by rfl,?_⟩) ?_ ?_
      rotate_left
      ·intro w'
       go_simp
       with_reducible rfl
      rotate_left
      ·exact z47a
      refine pure_ (i:=3) (N:=some 107) (v:=?_) (a':=?_) #[true,false,true,true,false,false,false,false,false,false,false] rfl rfl (any_of HT_.out (by kernel_rfl)) (fun _ _ _ h=>h) (Or.inl ⟨by rfl,?_⟩) ?_ ?_
      rotate_left
      ·intro w'
       go_simp
       with_reducible rfl
      rotate_left
      ·exact z47a
      refine take_ (i:=1) (N:=some 105) (v:=?_) (a':=?_) #[true,true,true,true,false,false,false,false,false,false,false] rfl rfl (take_ofW HT_.out HW_.out (by kernel_rfl)) (fun _ _ _ h=>h) (Or.inl ⟨by rfl,?_⟩) hHeld ?_ ?_
      rotate_left
      ·rintro w' ⟨s0,s1,s2,s3,s4,s5,s6⟩
       go_simp
       with_reducible rfl
      rotate_left
      ·exact z47a
      refine one_ (i:=4) (N:=some 108) #[true,true,true,true,true,false,false,false,false,false,false] rfl rfl (one_of HT_.out (by kernel_rfl)) (by decide) (fun K hK=>?_)
      refine goes_ Try.func70 (by kernel_rfl) rfl #[.pointer (some ⟨qm,0,none⟩),.int .i64 30] (by rfl) rfl rfl z47x19 ?_
      with_reducible refine (spec_l6Rd_pick.calls k1 qm qj gh 30 qdq qmz w _ ?side1 ?side2 A77.out).mono ?_
      (case side1=>repeat (first|(with_reducible first|exact qc.out|apply IsS158.alloc|apply IsS158.drewN|apply IsS158.drew|apply IsS158.set_1|refine IsS158.far ?_ qf.out _|refine IsS158.far ?_ qk.out _)|exact qc.out))
      (case side2=>repeat (first|(with_reducible first|exact HB.out|apply below_alloc|apply pw_below_drewN|apply below_drew1|refine below_set ?_ (IsS158.ge qc.out)|refine below_set ?_ qq.out|refine below_set ?_ we.out)|exact HB.out))
      rintro e w92 ⟨rfl,hi,hb,hk⟩
      refine ⟨_,rfl,?_⟩
      have n0_:=Aside0.mk (Kd.R_mono (Kd.R_keep (IsS158.apart (show IsS158 w _ qm qj gh from by repeat (first|(with_reducible first|exact qc.out|apply IsS158.alloc|apply IsS158.drewN|apply IsS158.drew|apply IsS158.set_1|refine IsS158.far ?_ qf.out _|refine IsS158.far ?_ qk.out _)|exact qc.out)) z47x23 (by decide)) hk (fun _ h=>h.2)) (fun _ h=>h.1))
      have n1_:=Aside0.mk (KeepBut.blk hk (g':=qb) (o:=.cells #[.int .i64 0,.int .i64 0,.int .i64 0,.int .i64 0,.int .i64 0,.int .i64 0,.int .i64 0] 41 (0,0)) z47x21 ql.out (by simp))
      have n2_:=Aside0.mk (KeepBut.blk hk (g':=qe) (o:=.cells #[.int .i64 ((rd_T41 qh qn).f0),.int .i64 ((rd_T41 qh qn).f1),.int .i64 ((rd_T41 qh qn).f2),.int .i64 ((rd_T41 qh qn).f3),.int .i64 ((rd_T41 qh qn).f4),.int .i64 ((rd_T41 qh qn).f5),.int .i64 ((rd_T41 qh qn).f6)] 41 (0,0)) z47x22 qt.out (by simp))
      have n3_:=Aside0.mk (hb)
      have n4_:=Aside0.mk (hi)
      clear HO_7
      clear qg
      clear qd
      clear HB
      clear qc
      have HO_7:=n0_
      have qg:=n1_
      have qd:=n2_
      have HB:=n3_
      have qc:=n4_
      clear n0_ n1_ n2_ n3_ n4_
      (try clear hb)
      (try clear hb2)
      (try clear hk)
      (try clear hi)
      refine hK.out _ _ ⟨(blk_cell qd.out 0).trans rfl,(blk_cell qd.out 1).trans rfl,(blk_cell qd.out 2).trans rfl,(blk_cell qd.out 3).trans rfl,(blk_cell qd.out 4).trans rfl,(blk_cell qd.out 5).trans rfl,(blk_cell qd.out 6).trans rfl⟩ (fun hHeld=>?_)
      clear hK K
      refine norm_ (a':=?_) ?_ ?_
      rotate_left
      ·show Act.put _ (some 108) _ = _
       simp only [Act.put,List.setIfInBounds_toArray,List.set_cons_zero,List.set_cons_succ,i64_w,i32_w]
       rfl
      refine pure_ (i:=5) (N:=some 109) (v:=?_) (a':=?_) #[true,true,true,true,true,true,false,false,false,false,false] rfl rfl (any_of HT_.out (by kernel_rfl)) (fun _ _ _ h=>h) (Or.inl ⟨by rfl,?_⟩) ?_ ?_
      rotate_left
      ·intro w'
       go_simp
       with_reducible rfl
      rotate_left
      ·exact z47a
      refine pure_ (i:=6) (N:=some 110) (v:=?_) (a':=?_) #[true,true,true,true,true,true,true,false,false,false,false] rfl rfl (any_of HT_.out (by kernel_rfl)) (fun _ _ _ h=>h) (Or.inl ⟨by rfl,?_⟩) ?_ ?_
      rotate_left
      ·intro w'
       go_simp
       with_reducible rfl
      rotate_left
      ·exact z47a
      refine pure_ (i:=7) (N:=some 111) (v:=?_) (a':=?_) #[true,true,true,true,true,true,true,true,false,false,false] rfl rfl (any_of HT_.out (by kernel_rfl)) (fun _ _ _ h=>h) (Or.inl ⟨by rfl,?_⟩) ?_ ?_
      rotate_left
      ·intro w'
       go_simp
       with_reducible rfl
      rotate_left
      ·exact z47a
      refine pure_ (i:=8) (N:=some 2) (v:=?_) (a':=?_) #[true,true,true,true,true,true,true,true,true,false,false] rfl rfl (any_of HT_.out (by kernel_rfl)) (fun _ _ _ h=>h) (Or.inl ⟨by rfl,?_⟩) ?_ ?_
      rotate_left
      ·intro w'
       go_simp
       with_reducible rfl
      rotate_left
      ·exact z47a
      refine one_ (i:=9) (N:=none) #[true,true,true,true,true,true,true,true,true,true,false] rfl rfl (one_of HT_.out (by kernel_rfl)) (by decide) (fun K hK=>?_)
      have qty : w92.cell? ⟨qb,0,none⟩ = some (.int .i64 0):=(blk_cell qg.out 0).trans rfl
      have qrv:=blk_frozen qg.out 0
      have qjb:=qa.out
      have qjp:=qi.out
      have qtx : w92.cell? ⟨qb,1,none⟩ = some (.int .i64 0):=(blk_cell qg.out 1).trans rfl
      have qru:=blk_frozen qg.out 1
      have qja:=qa.out
      have qjo:=qi.out
      have qtw : w92.cell? ⟨qb,2,none⟩ = some (.int .i64 0):=(blk_cell qg.out 2).trans rfl
      have qrt:=blk_frozen qg.out 2
      have qiz:=qa.out
      have qjn:=qi.out
      have qtv : w92.cell? ⟨qb,3,none⟩ = some (.int .i64 0):=(blk_cell qg.out 3).trans rfl
      have qrs:=blk_frozen qg.out 3
      have qiy:=qa.out
      have qjm:=qi.out
      have qtu : w92.cell? ⟨qb,4,none⟩ = some (.int .i64 0):=(blk_cell qg.out 4).trans rfl
      have qrr:=blk_frozen qg.out 4
      have qix:=qa.out
      have qjl:=qi.out
      have qtt : w92.cell? ⟨qb,5,none⟩ = some (.int .i64 0):=(blk_cell qg.out 5).trans rfl
      have qrq:=blk_frozen qg.out 5
      have qiw:=qa.out
      have qjk:=qi.out
      have qts : w92.cell? ⟨qb,6,none⟩ = some (.int .i64 0):=(blk_cell qg.out 6).trans rfl
      have qrp:=blk_frozen qg.out 6
      have qiv:=qa.out
      have qjj:=qi.out
      refine skip_ (w1:=?_) (by rfl) rfl ?_ ?_
      rotate_left
      ·go_simp
       rfl
      refine hK.out _ _ ⟨((cell_far (p:=⟨qb,_,none⟩) qa.out _).trans (((cell_far (p:=⟨qb,_,none⟩) qa.out _).trans (((cell_far (p:=⟨qb,_,none⟩) qa.out _).trans (((cell_far (p:=⟨qb,_,none⟩) qa.out _).trans (((cell_far (p:=⟨qb,_,none⟩) qa.out _).trans (((cell_far (p:=⟨qb,_,none⟩) qa.out _).trans (((cell_far (p:=⟨qb,_,none⟩) qa.out _).trans (hHeld.1)))))))))))))),((cell_far (p:=⟨qb,_,none⟩) qa.out _).trans (((cell_far (p:=⟨qb,_,none⟩) qa.out _).trans (((cell_far (p:=⟨qb,_,none⟩) qa.out _).trans (((cell_far (p:=⟨qb,_,none⟩) qa.out _).trans (((cell_far (p:=⟨qb,_,none⟩) qa.out _).trans (((cell_far (p:=⟨qb,_,none⟩) qa.out _).trans (((cell_far (p:=⟨qb,_,none⟩) qa.out _).trans (hHeld.2.1)))))))))))))),((cell_far (p:=⟨qb,_,none⟩) qa.out _).trans (((cell_far (p:=⟨qb,_,none⟩) qa.out _).trans (((cell_far (p:=⟨qb,_,none⟩) qa.out _).trans (((cell_far (p:=⟨qb,_,none⟩) qa.out _).trans (((cell_far (p:=⟨qb,_,none⟩) qa.out _).trans (((cell_far (p:=⟨qb,_,none⟩) qa.out _).trans (((cell_far (p:=⟨qb,_,none⟩) qa.out _).trans (hHeld.2.2.1)))))))))))))),((cell_far (p:=⟨qb,_,none⟩) qa.out _).trans (((cell_far (p:=⟨qb,_,none⟩) qa.out _).trans (((cell_far (p:=⟨qb,_,none⟩) qa.out _).trans (((cell_far (p:=⟨qb,_,none⟩) qa.out _).trans (((cell_far (p:=⟨qb,_,none⟩) qa.out _).trans (((cell_far (p:=⟨qb,_,none⟩) qa.out _).trans (((cell_far (p:=⟨qb,_,none⟩) qa.out _).trans (hHeld.2.2.2.1)))))))))))))),((cell_far (p:=⟨qb,_,none⟩) qa.out _).trans (((cell_far (p:=⟨qb,_,none⟩) qa.out _).trans (((cell_far (p:=⟨qb,_,none⟩) qa.out _).trans (((cell_far (p:=⟨qb,_,none⟩) qa.out _).trans (((cell_far (p:=⟨qb,_,none⟩) qa.out _).trans (((cell_far (p:=⟨qb,_,none⟩) qa.out _).trans (((cell_far (p:=⟨qb,_,none⟩) qa.out _).trans (hHeld.2.2.2.2.1)))))))))))))),((cell_far (p:=⟨qb,_,none⟩) qa.out _).trans (((cell_far (p:=⟨qb,_,none⟩) qa.out _).trans (((cell_far (p:=⟨qb,_,none⟩) qa.out _).trans (((cell_far (p:=⟨qb,_,none⟩) qa.out _).trans (((cell_far (p:=⟨qb,_,none⟩) qa.out _).trans (((cell_far (p:=⟨qb,_,none⟩) qa.out _).trans (((cell_far (p:=⟨qb,_,none⟩) qa.out _).trans (hHeld.2.2.2.2.2.1)))))))))))))),((cell_far (p:=⟨qb,_,none⟩) qa.out _).trans (((cell_far (p:=⟨qb,_,none⟩) qa.out _).trans (((cell_far (p:=⟨qb,_,none⟩) qa.out _).trans (((cell_far (p:=⟨qb,_,none⟩) qa.out _).trans (((cell_far (p:=⟨qb,_,none⟩) qa.out _).trans (((cell_far (p:=⟨qb,_,none⟩) qa.out _).trans (((cell_far (p:=⟨qb,_,none⟩) qa.out _).trans (hHeld.2.2.2.2.2.2))))))))))))))⟩ (fun hHeld=>?_)
      clear hK K
      refine pure_ (i:=10) (N:=some 4) (v:=?_) (a':=?_) #[true,true,true,true,true,true,true,true,true,true,true] rfl rfl (any_of HT_.out (by kernel_rfl)) (fun _ _ _ h=>h) (Or.inl ⟨by rfl,?_⟩) ?_ ?_
      rotate_left
      ·intro w'
       go_simp
       with_reducible rfl
      rotate_left
      ·exact z47a
      refine done_ (done_of HT_.out (by kernel_rfl)) ?_
      try go_wp2
      refine bodyPost_ret (results_list (rs:=[.tmp 2,.cell 3 41,.tmp 4]) rfl (by simp) (.tmp (.cell qb 41 #[.int .i64 ((rd_T41 qh qn).f0),.int .i64 ((rd_T41 qh qn).f1),.int .i64 ((rd_T41 qh qn).f2),.int .i64 ((rd_T41 qh qn).f3),.int .i64 ((rd_T41 qh qn).f4),.int .i64 ((rd_T41 qh qn).f5),.int .i64 ((rd_T41 qh qn).f6)] (0,0) _ rfl (by (with_reducible repeat (first|refine blk_drewN ?_ _|refine blk_drew ?_|refine blk_alloc ?_ _));refine blk_put (cs:=#[.int .i64 ((rd_T41 qh qn).f0),.int .i64 ((rd_T41 qh qn).f1),.int .i64 ((rd_T41 qh qn).f2),.int .i64 ((rd_T41 qh qn).f3),.int .i64 ((rd_T41 qh qn).f4),.int .i64 ((rd_T41 qh qn).f5),.int .i64 0]) ?_ 6 _ rfl;(with_reducible repeat (first|refine blk_drewN ?_ _|refine blk_drew ?_|refine blk_alloc ?_ _));refine blk_put (cs:=#[.int .i64 ((rd_T41 qh qn).f0),.int .i64 ((rd_T41 qh qn).f1),.int .i64 ((rd_T41 qh qn).f2),.int .i64 ((rd_T41 qh qn).f3),.int .i64 ((rd_T41 qh qn).f4),.int .i64 0,.int .i64 0]) ?_ 5 _ rfl;(with_reducible repeat (first|refine blk_drewN ?_ _|refine blk_drew ?_|refine blk_alloc ?_ _));refine blk_put (cs:=#[.int .i64 ((rd_T41 qh qn).f0),.int .i64 ((rd_T41 qh qn).f1),.int .i64 ((rd_T41 qh qn).f2),.int .i64 ((rd_T41 qh qn).f3),.int .i64 0,.int .i64 0,.int .i64 0]) ?_ 4 _ rfl;(with_reducible repeat (first|refine blk_drewN ?_ _|refine blk_drew ?_|refine blk_alloc ?_ _));refine blk_put (cs:=#[.int .i64 ((rd_T41 qh qn).f0),.int .i64 ((rd_T41 qh qn).f1),.int .i64 ((rd_T41 qh qn).f2),.int .i64 0,.int .i64 0,.int .i64 0,.int .i64 0]) ?_ 3 _ rfl;(with_reducible repeat (first|refine blk_drewN ?_ _|refine blk_drew ?_|refine blk_alloc ?_ _));refine blk_put (cs:=#[.int .i64 ((rd_T41 qh qn).f0),.int .i64 ((rd_T41 qh qn).f1),.int .i64 0,.int .i64 0,.int .i64 0,.int .i64 0,.int .i64 0]) ?_ 2 _ rfl;(with_reducible repeat (first|refine blk_drewN ?_ _|refine blk_drew ?_|refine blk_alloc ?_ _));refine blk_put (cs:=#[.int .i64 ((rd_T41 qh qn).f0),.int .i64 0,.int .i64 0,.int .i64 0,.int .i64 0,.int .i64 0,.int .i64 0]) ?_ 1 _ rfl;(with_reducible repeat (first|refine blk_drewN ?_ _|refine blk_drew ?_|refine blk_alloc ?_ _));refine blk_put (cs:=#[.int .i64 0,.int .i64 0,.int .i64 0,.int .i64 0,.int .i64 0,.int .i64 0,.int .i64 0]) ?_ 0 _ rfl;(with_reducible repeat (first|refine blk_drewN ?_ _|refine blk_drew ?_|refine blk_alloc ?_ _));exact qg.out) Try.underlying41 rfl (by kernel_rfl) (.tmp .nil)))) rfl ?_
      exact ⟨_,by first|rfl|(simp [errW_none,errW_some] <;> rfl)|(simp only [← vr];first|rfl|(simp [errW_none,errW_some] <;> rfl))|(simp [*,errW_none,errW_some] <;> rfl),by (with_reducible repeat (first|apply Kd.R_alloc|apply Kd.R_drewN|apply Kd.R_drew));exact Kd.R_mono (Kd.R_far (p:=⟨qb,6,none⟩) (Kd.R_far (p:=⟨qb,5,none⟩) (Kd.R_far (p:=⟨qb,4,none⟩) (Kd.R_far (p:=⟨qb,3,none⟩) (Kd.R_far (p:=⟨qb,2,none⟩) (Kd.R_far (p:=⟨qb,1,none⟩) (Kd.R_far (p:=⟨qb,0,none⟩) (Kd.R_mono HO_7.out (fun k_ hk=>(⟨hk,hk.1⟩ : _ ∧ k_ ≠ qb))) (fun _ hk=>hk.2) (.int .i64 ((rd_T41 qh qn).f0))) (fun _ hk=>hk.2) (.int .i64 ((rd_T41 qh qn).f1))) (fun _ hk=>hk.2) (.int .i64 ((rd_T41 qh qn).f2))) (fun _ hk=>hk.2) (.int .i64 ((rd_T41 qh qn).f3))) (fun _ hk=>hk.2) (.int .i64 ((rd_T41 qh qn).f4))) (fun _ hk=>hk.2) (.int .i64 ((rd_T41 qh qn).f5))) (fun _ hk=>hk.2) (.int .i64 ((rd_T41 qh qn).f6))) (fun _ hk=>trivial),by repeat (first|(with_reducible first|exact HB.out|apply below_alloc|apply pw_below_drewN|apply below_drew1|refine below_set ?_ (IsS158.ge qc.out)|refine below_set ?_ qq.out|refine below_set ?_ we.out)|exact HB.out)⟩
     ·rw [if_neg c72] at H
      have qcp : (wi == 1) = false:=beq_eq_false_iff_ne.mpr c72
      have qco : (wi != 1) = true:=bne_iff_ne.mpr c72
      by_cases ux : wi = 2
      ·rw [if_pos ux] at H
       have qav : (wi == 2) = true:=beq_iff_eq.mpr ux
       have qau : (wi != 2) = false:=bne_eq_false_iff_eq.mpr ux
       clear ux
       replace H:=Option.bind_eq_some_iff.mp H
       obtain ⟨⟨qdo,qmx⟩,qcw,H⟩:=H
       replace H : (some (qh,qu,3,wrap64 (1 + qv),wrap64 (qo + 1),wrap64 (1 + qz),0,0,wrap64 (qo + (wrap64 ((wrap64 (Int.tdiv qdo 29)) * 100))))) = some (r1,r2,r3,r4,r5,r6,r7,r8,r9):=H
       have qpo:=Aside0.mk qcw
       clear qcw
       simp only [Option.some.injEq,Prod.mk.injEq] at H
       obtain ⟨rfl,rfl,rfl,rfl,rfl,rfl,rfl,rfl,rfl⟩:=H
       try go_wp2_with (first|((with_reducible refine gate_callee (f:=99) rfl ?_);refine goesL_ (some 45) rfl rfl Try.func99 (by kernel_rfl) rfl #[.pointer (some ⟨qm,0,none⟩)] rfl z47x19 ?_;(with_reducible refine (spec_l71Key.calls k1 qm qj wb qu vm w _ ?side1 ?side2 A42.out).mono ?_);(case side1=>repeat (first|(with_reducible first|exact qc.out|apply IsS158.alloc|apply IsS158.drewN|apply IsS158.drew|apply IsS158.set_1|refine IsS158.far ?_ qf.out _)|exact qc.out));(case side2=>repeat (first|(with_reducible first|exact HB.out|apply below_alloc|apply pw_below_drewN|apply below_drew1|refine below_set ?_ (IsS158.ge qc.out)|refine below_set ?_ qq.out)|exact HB.out));rintro e qtg ⟨rfl,hi,hb,hk⟩; refine ⟨_,rfl,?_⟩; have n0_:=Aside0.mk (Kd.R_mono (Kd.R_keep (IsS158.apart (show IsS158 w _ qm qj wb from by repeat (first|(with_reducible first|exact qc.out|apply IsS158.alloc|apply IsS158.drewN|apply IsS158.drew|apply IsS158.set_1|refine IsS158.far ?_ qf.out _)|exact qc.out)) z47x23 (by decide)) hk (fun _ h=>h.2)) (fun _ h=>h.1));have n1_:=Aside0.mk (KeepBut.blk hk (g':=qb) (o:=.cells #[.int .i64 0,.int .i64 0,.int .i64 0,.int .i64 0,.int .i64 0,.int .i64 0,.int .i64 0] 41 (0,0)) z47x21 ql.out (by simp));have n2_:=Aside0.mk (hb);have n3_:=Aside0.mk (hi);clear HO_7;clear qg;clear HB;clear qc;have HO_7:=n0_;have qg:=n1_;have HB:=n2_;have qc:=n3_;clear n0_ n1_ n2_ n3_;(try clear hb);(try clear hb2);(try clear hk);(try clear hi))|((with_reducible refine gate_callee (f:=70) rfl ?_);refine goesL_ (some 47) rfl rfl Try.func70 (by kernel_rfl) rfl #[.pointer (some ⟨qm,0,none⟩),.int .i64 3] rfl z47x19 ?_;(with_reducible refine (spec_l6Rd_pick.calls k1 qm qj vm 3 qv vl w _ ?side1 ?side2 A43.out).mono ?_);(case side1=>repeat (first|(with_reducible first|exact qc.out|apply IsS158.alloc|apply IsS158.drewN|apply IsS158.drew|apply IsS158.set_1|refine IsS158.far ?_ qf.out _)|exact qc.out));(case side2=>repeat (first|(with_reducible first|exact HB.out|apply below_alloc|apply pw_below_drewN|apply below_drew1|refine below_set ?_ (IsS158.ge qc.out)|refine below_set ?_ qq.out)|exact HB.out));rintro e qtf ⟨rfl,hi,hb,hk⟩; refine ⟨_,rfl,?_⟩; have n0_:=Aside0.mk (Kd.R_mono (Kd.R_keep (IsS158.apart (show IsS158 w _ qm qj vm from by repeat (first|(with_reducible first|exact qc.out|apply IsS158.alloc|apply IsS158.drewN|apply IsS158.drew|apply IsS158.set_1|refine IsS158.far ?_ qf.out _)|exact qc.out)) z47x23 (by decide)) hk (fun _ h=>h.2)) (fun _ h=>h.1));have n1_:=Aside0.mk (KeepBut.blk hk (g':=qb) (o:=.cells #[.int .i64 0,.int .i64 0,.int .i64 0,.int .i64 0,.int .i64 0,.int .i64 0,.int .i64 0] 41 (0,0)) z47x21 ql.out (by simp));have n2_:=Aside0.mk (hb);have n3_:=Aside0.mk (hi);clear HO_7;clear qg;clear HB;clear qc;have HO_7:=n0_;have qg:=n1_;have HB:=n2_;have qc:=n3_;clear n0_ n1_ n2_ n3_;(try clear hb);(try clear hb2);(try clear hk);(try clear hi))|((with_reducible refine gate_callee (f:=70) rfl ?_);refine goesL_ (some 51) rfl rfl Try.func70 (by kernel_rfl) rfl #[.pointer (some ⟨qm,0,none⟩),.int .i64 3] rfl z47x19 ?_;(with_reducible refine (spec_l6Rd_pick.calls k1 qm qj vl 3 ub wx w _ ?side1 ?side2 A44.out).mono ?_);(case side1=>repeat (first|(with_reducible first|exact qc.out|apply IsS158.alloc|apply IsS158.drewN|apply IsS158.drew|apply IsS158.set_1|refine IsS158.far ?_ qf.out _)|exact qc.out));(case side2=>repeat (first|(with_reducible first|exact HB.out|apply below_alloc|apply pw_below_drewN|apply below_drew1|refine below_set ?_ (IsS158.ge qc.out)|refine below_set ?_ qq.out)|exact HB.out));rintro e qte ⟨rfl,hi,hb,hk⟩; refine ⟨_,rfl,?_⟩; have n0_:=Aside0.mk (Kd.R_mono (Kd.R_keep (IsS158.apart (show IsS158 w _ qm qj vl from by repeat (first|(with_reducible first|exact qc.out|apply IsS158.alloc|apply IsS158.drewN|apply IsS158.drew|apply IsS158.set_1|refine IsS158.far ?_ qf.out _)|exact qc.out)) z47x23 (by decide)) hk (fun _ h=>h.2)) (fun _ h=>h.1));have n1_:=Aside0.mk (KeepBut.blk hk (g':=qb) (o:=.cells #[.int .i64 0,.int .i64 0,.int .i64 0,.int .i64 0,.int .i64 0,.int .i64 0,.int .i64 0] 41 (0,0)) z47x21 ql.out (by simp));have n2_:=Aside0.mk (hb);have n3_:=Aside0.mk (hi);clear HO_7;clear qg;clear HB;clear qc;have HO_7:=n0_;have qg:=n1_;have HB:=n2_;have qc:=n3_;clear n0_ n1_ n2_ n3_;(try clear hb);(try clear hb2);(try clear hk);(try clear hi))|((with_reducible refine gate_callee (f:=70) rfl ?_);refine goesL_ (some 55) rfl rfl Try.func70 (by kernel_rfl) rfl #[.pointer (some ⟨qm,0,none⟩),.int .i64 9] rfl z47x19 ?_;(with_reducible refine (spec_l6Rd_pick.calls k1 qm qj wx 9 qz wv w _ ?side1 ?side2 A46.out).mono ?_);(case side1=>repeat (first|(with_reducible first|exact qc.out|apply IsS158.alloc|apply IsS158.drewN|apply IsS158.drew|apply IsS158.set_1|refine IsS158.far ?_ qf.out _)|exact qc.out));(case side2=>repeat (first|(with_reducible first|exact HB.out|apply below_alloc|apply pw_below_drewN|apply below_drew1|refine below_set ?_ (IsS158.ge qc.out)|refine below_set ?_ qq.out)|exact HB.out));rintro e qtd ⟨rfl,hi,hb,hk⟩; refine ⟨_,rfl,?_⟩; have n0_:=Aside0.mk (Kd.R_mono (Kd.R_keep (IsS158.apart (show IsS158 w _ qm qj wx from by repeat (first|(with_reducible first|exact qc.out|apply IsS158.alloc|apply IsS158.drewN|apply IsS158.drew|apply IsS158.set_1|refine IsS158.far ?_ qf.out _)|exact qc.out)) z47x23 (by decide)) hk (fun _ h=>h.2)) (fun _ h=>h.1));have n1_:=Aside0.mk (KeepBut.blk hk (g':=qb) (o:=.cells #[.int .i64 0,.int .i64 0,.int .i64 0,.int .i64 0,.int .i64 0,.int .i64 0,.int .i64 0] 41 (0,0)) z47x21 ql.out (by simp));have n2_:=Aside0.mk (hb);have n3_:=Aside0.mk (hi);clear HO_7;clear qg;clear HB;clear qc;have HO_7:=n0_;have qg:=n1_;have HB:=n2_;have qc:=n3_;clear n0_ n1_ n2_ n3_;(try clear hb);(try clear hb2);(try clear hk);(try clear hi))|((with_reducible refine gate_dst (N:=10) rfl ?_);refine box_event ?hg (N:=10) ?hd (cs:=#[.int .i64 0,.int .i64 0,.int .i64 0,.int .i64 0,.int .i64 0,.int .i64 0,.int .i64 0]) (t:=41) ?hr ?_;(case hd=>rfl);(case hg=>rfl);(case hr=>first|(go_simp;done)|(go_simp;rfl));intro qe hg jf hbox hb;have n0_:=Aside0.mk (Kd.R_below (Kd.R_elderB z47x23 qe (Nat.le_of_eq hg.symm)) hb);have n1_:=Aside0.mk (blk_below (g:=qb) (o:=.cells #[.int .i64 0,.int .i64 0,.int .i64 0,.int .i64 0,.int .i64 0,.int .i64 0,.int .i64 0] 41 (0,0)) z47x21 hb);have n2_:=Aside0.mk (IsS158.below z47x18 hb);have n3_:=Aside0.mk (below_step z47x17 hb);have n4_:=Aside0.mk (hbox);have n5_:=Aside0.mk ((z47x15 : w.heap.size ≤ qe));have n6_:=Aside0.mk ((z47x15 : w.heap.size ≤ qe));have n7_:=Aside0.mk ((z47x8 : qb ≠ qe));have n8_:=Aside0.mk ((z47x7 : qe ≠ qb));have n9_:=Aside0.mk ((z47x12 : qm ≠ qe));have n10_:=Aside0.mk ((z47x10 : qe ≠ qm));clear HO_7;clear qg;clear qc;clear HB;have HO_7:=n0_;have qg:=n1_;have qc:=n2_;have HB:=n3_;have qd:=n4_;have uo:=n5_;have we:=n6_;have qi:=n7_;have qa:=n8_;have qk:=n9_;have qt:=n10_;clear n0_ n1_ n2_ n3_ n4_ n5_ n6_ n7_ n8_ n9_ n10_;clear hb hbox hg;have qns:=qa.out;have qni:=qi.out;have qnr:=qt.out;have qnh:=qk.out;have qak : jf.cell? ⟨qe,0,none⟩ = some (.int .i64 0):=(blk_cell qd.out 0).trans rfl;have qaj : jf.cell? ⟨qe,1,none⟩ = some (.int .i64 0):=(blk_cell qd.out 1).trans rfl;have qai : jf.cell? ⟨qe,2,none⟩ = some (.int .i64 0):=(blk_cell qd.out 2).trans rfl;have qah : jf.cell? ⟨qe,3,none⟩ = some (.int .i64 0):=(blk_cell qd.out 3).trans rfl;have qag : jf.cell? ⟨qe,4,none⟩ = some (.int .i64 0):=(blk_cell qd.out 4).trans rfl;have qaf : jf.cell? ⟨qe,5,none⟩ = some (.int .i64 0):=(blk_cell qd.out 5).trans rfl;have qae : jf.cell? ⟨qe,6,none⟩ = some (.int .i64 0):=(blk_cell qd.out 6).trans rfl;have pg:=blk_frozen qd.out 0;have pf:=blk_frozen qd.out 1;have pe:=blk_frozen qd.out 2;have pd:=blk_frozen qd.out 3;have pc:=blk_frozen qd.out 4;have pb:=blk_frozen qd.out 5;have pa:=blk_frozen qd.out 6)|((with_reducible refine gate_callee (f:=70) rfl ?_);refine goesL_ (some 59) rfl rfl Try.func70 (by kernel_rfl) rfl #[.pointer (some ⟨qm,0,none⟩),.int .i64 12] rfl z47x19 ?_;(with_reducible refine (spec_l6Rd_pick.calls k1 qm qj wv 12 wi wn w _ ?side1 ?side2 A47.out).mono ?_);(case side1=>repeat (first|(with_reducible first|exact qc.out|apply IsS158.alloc|apply IsS158.drewN|apply IsS158.drew|apply IsS158.set_1|refine IsS158.far ?_ qf.out _|refine IsS158.far ?_ qk.out _)|exact qc.out));(case side2=>repeat (first|(with_reducible first|exact HB.out|apply below_alloc|apply pw_below_drewN|apply below_drew1|refine below_set ?_ (IsS158.ge qc.out)|refine below_set ?_ qq.out|refine below_set ?_ we.out)|exact HB.out));rintro e ue ⟨rfl,hi,hb,hk⟩; refine ⟨_,rfl,?_⟩; have n0_:=Aside0.mk (Kd.R_mono (Kd.R_keep (IsS158.apart (show IsS158 w _ qm qj wv from by repeat (first|(with_reducible first|exact qc.out|apply IsS158.alloc|apply IsS158.drewN|apply IsS158.drew|apply IsS158.set_1|refine IsS158.far ?_ qf.out _|refine IsS158.far ?_ qk.out _)|exact qc.out)) z47x6 (by decide)) hk (fun _ h=>h.2)) (fun _ h=>h.1));have n1_:=Aside0.mk (KeepBut.blk hk (g':=qb) (o:=.cells #[.int .i64 0,.int .i64 0,.int .i64 0,.int .i64 0,.int .i64 0,.int .i64 0,.int .i64 0] 41 (0,0)) z47x4 ql.out (by simp));have n2_:=Aside0.mk (KeepBut.blk hk (g':=qe) (o:=.cells #[.int .i64 qu,.int .i64 3,.int .i64 (wrap64 (1 + qv)),.int .i64 wc,.int .i64 (wrap64 (1 + qz)),.int .i64 0,.int .i64 0] 41 (0,0)) z47x2 qt.out (by simp));have n3_:=Aside0.mk (hb);have n4_:=Aside0.mk (hi);clear HO_7;clear qg;clear qd;clear HB;clear qc;have HO_7:=n0_;have qg:=n1_;have qd:=n2_;have HB:=n3_;have qc:=n4_;clear n0_ n1_ n2_ n3_ n4_;(try clear hb);(try clear hb2);(try clear hk);(try clear hi);have qad : ue.cell? ⟨qe,0,none⟩ = some (.int .i64 qu):=(blk_cell qd.out 0).trans rfl;have qac : ue.cell? ⟨qe,1,none⟩ = some (.int .i64 3):=(blk_cell qd.out 1).trans rfl;have qab : ue.cell? ⟨qe,2,none⟩ = some (.int .i64 (wrap64 (1 + qv))):=(blk_cell qd.out 2).trans rfl;have qaa : ue.cell? ⟨qe,3,none⟩ = some (.int .i64 wc):=(blk_cell qd.out 3).trans rfl;have pz : ue.cell? ⟨qe,4,none⟩ = some (.int .i64 (wrap64 (1 + qz))):=(blk_cell qd.out 4).trans rfl;have px : ue.cell? ⟨qe,5,none⟩ = some (.int .i64 0):=(blk_cell qd.out 5).trans rfl;have pw : ue.cell? ⟨qe,6,none⟩ = some (.int .i64 0):=(blk_cell qd.out 6).trans rfl;have gz:=blk_frozen qd.out 0;have gy:=blk_frozen qd.out 1;have gx:=blk_frozen qd.out 2;have gw:=blk_frozen qd.out 3;have gv:=blk_frozen qd.out 4;have gu:=blk_frozen qd.out 5;have gt:=blk_frozen qd.out 6))
       have n0_ : Aside0 (Kd.R k41 41 (ue.setCell ⟨qe,3,none⟩ (.int .i64 (wrap64 (qo + 1)))) w.heap.size (fun k_=>k_ ≠ qb ∧ k_ ≠ qe) u7 qh):=⟨by (with_reducible repeat (first|apply Kd.R_alloc|apply Kd.R_drewN|apply Kd.R_drew));exact Kd.R_mono (Kd.R_far (p:=⟨qe,3,none⟩) (Kd.R_mono HO_7.out (fun k_ hk=>(⟨hk,hk.2⟩ : _ ∧ k_ ≠ qe))) (fun _ hk=>hk.2) (.int .i64 (wrap64 (qo + 1)))) (fun _ hk=>⟨hk.1.1,hk.1.2⟩)⟩
       have n1_ : Aside0 ((ue.setCell ⟨qe,3,none⟩ (.int .i64 (wrap64 (qo + 1)))).heap[qb]? = some (.cells #[.int .i64 0,.int .i64 0,.int .i64 0,.int .i64 0,.int .i64 0,.int .i64 0,.int .i64 0] 41 (0,0))):=⟨by (with_reducible repeat (first|refine blk_drewN ?_ _|refine blk_drew ?_|refine blk_alloc ?_ _));refine blk_far ?_ qi.out _;(with_reducible repeat (first|refine blk_drewN ?_ _|refine blk_drew ?_|refine blk_alloc ?_ _));exact qg.out⟩
       have n2_ : Aside0 ((ue.setCell ⟨qe,3,none⟩ (.int .i64 (wrap64 (qo + 1)))).heap[qe]? = some (.cells #[.int .i64 qu,.int .i64 3,.int .i64 (wrap64 (1 + qv)),.int .i64 (wrap64 (qo + 1)),.int .i64 (wrap64 (1 + qz)),.int .i64 0,.int .i64 0] 41 (0,0))):=⟨by (with_reducible repeat (first|refine blk_drewN ?_ _|refine blk_drew ?_|refine blk_alloc ?_ _));refine blk_put (cs:=#[.int .i64 qu,.int .i64 3,.int .i64 (wrap64 (1 + qv)),.int .i64 wc,.int .i64 (wrap64 (1 + qz)),.int .i64 0,.int .i64 0]) ?_ 3 _ rfl;(with_reducible repeat (first|refine blk_drewN ?_ _|refine blk_drew ?_|refine blk_alloc ?_ _));exact qd.out⟩
       have n3_ : Aside0 (IsS158 w (ue.setCell ⟨qe,3,none⟩ (.int .i64 (wrap64 (qo + 1)))) qm qj wn):=⟨by repeat (first|(with_reducible first|exact qc.out|apply IsS158.alloc|apply IsS158.drewN|apply IsS158.drew|apply IsS158.set_1|refine IsS158.far ?_ qf.out _|refine IsS158.far ?_ qk.out _)|exact qc.out)⟩
       have n4_ : Aside0 (Below w.heap.size w (ue.setCell ⟨qe,3,none⟩ (.int .i64 (wrap64 (qo + 1))))):=⟨by repeat (first|(with_reducible first|exact HB.out|apply below_alloc|apply pw_below_drewN|apply below_drew1|refine below_set ?_ (IsS158.ge qc.out)|refine below_set ?_ qq.out|refine below_set ?_ we.out)|exact HB.out)⟩
       (try clear HO_7)
       (try clear qg)
       (try clear qd)
       (try clear qc)
       (try clear HB)
       generalize (ue.setCell ⟨qe,3,none⟩ (.int .i64 (wrap64 (qo + 1)))) = qms at n0_ n1_ n2_ n3_ n4_ ⊢
       have HO_7:=n0_
       have qg:=n1_
       have qd:=n2_
       have qc:=n3_
       have HB:=n4_
       clear n0_ n1_ n2_ n3_ n4_
       have n0_:=Aside0.mk (Kd.R_drew HO_7.out)
       have n1_:=Aside0.mk (blk_drew qg.out)
       have n2_:=Aside0.mk (blk_drew qd.out)
       have n3_:=Aside0.mk (IsS158.drew qc.out)
       have n4_:=Aside0.mk (below_drew1 HB.out)
       clear HO_7
       clear qg
       clear qd
       clear qc
       clear HB
       have HO_7:=n0_
       have qg:=n1_
       have qd:=n2_
       have qc:=n3_
       have HB:=n4_
       clear n0_ n1_ n2_ n3_ n4_
       refine start_ (n:=11) (S:=fun w' => w'.cell? ⟨qe,0,none⟩ = some (.int .i64 qu) ∧ w'.cell? ⟨qe,1,none⟩ = some (.int .i64 3) ∧ w'.cell? ⟨qe,2,none⟩ = some (.int .i64 (wrap64 (1 + qv))) ∧ w'.cell? ⟨qe,3,none⟩ = some (.int .i64 (wrap64 (qo + 1))) ∧ w'.cell? ⟨qe,4,none⟩ = some (.int .i64 (wrap64 (1 + qz))) ∧ w'.cell? ⟨qe,5,none⟩ = some (.int .i64 0) ∧ w'.cell? ⟨qe,6,none⟩ = some (.int .i64 0)) (ds:=[]) #[false,false,false,false,false,false,false,false,false,false,false] (by kernel_rfl) rfl rfl ⟨(blk_cell qd.out 0).trans rfl,(blk_cell qd.out 1).trans rfl,(blk_cell qd.out 2).trans rfl,(blk_cell qd.out 3).trans rfl,(blk_cell qd.out 4).trans rfl,(blk_cell qd.out 5).trans rfl,(blk_cell qd.out 6).trans rfl⟩ (fun hHeld=>?_);refine with_tabW spec_DrawCacheWith.tab24 spec_DrawCacheWith.bits24 (fun HT_ HW_=>?_)
       generalize qms.drew = qtc at HO_7 qg qd qc HB hHeld ⊢
       refine pure_ (i:=0) (N:=some 104) (v:=?_) (a':=?_) #[true,false,false,false,false,false,false,false,false,false,false] rfl rfl (any_of HT_.out (by kernel_rfl)) (fun _ _ _ h=>h) (Or.inl ⟨by rfl,?_⟩) ?_ ?_
       rotate_left
       ·intro w'
        go_simp
        with_reducible rfl
       rotate_left
       ·exact z47a
       refine pure_ (i:=2) (N:=some 106) (v:=?_) (a':=?_) #[true,false,true,false,false,false,false,false,false,false,false] rfl rfl (any_of HT_.out (by kernel_rfl)) (fun _ _ _ h=>h) (Or.inl ⟨by rfl,?_⟩) ?_ ?_
       rotate_left
       ·intro w'
        go_simp
        with_reducible rfl
       rotate_left
       ·exact z47a
       refine pure_ (i:=3) (N:=some 107) (v:=?_) (a':=?_) #[true,false,true,true,false,false,false,false,false,false,false] rfl rfl (any_of HT_.out (by kernel_rfl)) (fun _ _ _ h=>h) (Or.inl ⟨by rfl,?_⟩) ?_ ?_
       rotate_left
       ·intro w'
        go_simp
        with_reducible rfl
       rotate_left
       ·exact z47a
       refine take_ (i:=1) (N:=some 105) (v:=?_) (a':=?_) #[true,true,true,true,false,false,false,false,false,false,false] rfl rfl (take_ofW HT_.out HW_.out (by kernel_rfl)) (fun _ _ _ h=>h) (Or.inl ⟨by rfl,?_⟩) hHeld ?_ ?_
       rotate_left
       ·rintro w' ⟨s0,s1,s2,s3,s4,s5,s6⟩
        go_simp
        with_reducible rfl
       rotate_left
       ·exact z47a
       refine one_ (i:=4) (N:=some 108) #[true,true,true,true,true,false,false,false,false,false,false] rfl rfl (one_of HT_.out (by kernel_rfl)) (by decide) (fun K hK=>?_)
       refine goes_ Try.func70 (by kernel_rfl) rfl #[.pointer (some ⟨qm,0,none⟩),.int .i64 30] (by rfl) rfl rfl z47x19 ?_
       with_reducible refine (spec_l6Rd_pick.calls k1 qm qj wn 30 qdo qmx w _ ?side1 ?side2 qpo.out).mono ?_
       (case side1=>repeat (first|(with_reducible first|exact qc.out|apply IsS158.alloc|apply IsS158.drewN|apply IsS158.drew|apply IsS158.set_1|refine IsS158.far ?_ qf.out _|refine IsS158.far ?_ qk.out _)|exact qc.out))
       (case side2=>repeat (first|(with_reducible first|exact HB.out|apply below_alloc|apply pw_below_drewN|apply below_drew1|refine below_set ?_ (IsS158.ge qc.out)|refine below_set ?_ qq.out|refine below_set ?_ we.out)|exact HB.out))
       rintro e je ⟨rfl,hi,hb,hk⟩
       refine ⟨_,rfl,?_⟩
       have n0_:=Aside0.mk (Kd.R_mono (Kd.R_keep (IsS158.apart (show IsS158 w _ qm qj wn from by repeat (first|(with_reducible first|exact qc.out|apply IsS158.alloc|apply IsS158.drewN|apply IsS158.drew|apply IsS158.set_1|refine IsS158.far ?_ qf.out _|refine IsS158.far ?_ qk.out _)|exact qc.out)) z47x23 (by decide)) hk (fun _ h=>h.2)) (fun _ h=>h.1))
       have n1_:=Aside0.mk (KeepBut.blk hk (g':=qb) (o:=.cells #[.int .i64 0,.int .i64 0,.int .i64 0,.int .i64 0,.int .i64 0,.int .i64 0,.int .i64 0] 41 (0,0)) z47x21 ql.out (by simp))
       have n2_:=Aside0.mk (KeepBut.blk hk (g':=qe) (o:=.cells #[.int .i64 qu,.int .i64 3,.int .i64 (wrap64 (1 + qv)),.int .i64 (wrap64 (qo + 1)),.int .i64 (wrap64 (1 + qz)),.int .i64 0,.int .i64 0] 41 (0,0)) z47x22 qt.out (by simp))
       have n3_:=Aside0.mk (hb)
       have n4_:=Aside0.mk (hi)
       clear HO_7
       clear qg
       clear qd
       clear HB
       clear qc
       have HO_7:=n0_
       have qg:=n1_
       have qd:=n2_
       have HB:=n3_
       have qc:=n4_
       clear n0_ n1_ n2_ n3_ n4_
       (try clear hb)
       (try clear hb2)
       (try clear hk)
       (try clear hi)
       refine hK.out _ _ ⟨(blk_cell qd.out 0).trans rfl,(blk_cell qd.out 1).trans rfl,(blk_cell qd.out 2).trans rfl,(blk_cell qd.out 3).trans rfl,(blk_cell qd.out 4).trans rfl,(blk_cell qd.out 5).trans rfl,(blk_cell qd.out 6).trans rfl⟩ (fun hHeld=>?_)
       clear hK K
       refine norm_ (a':=?_) ?_ ?_
       rotate_left
       ·show Act.put _ (some 108) _ = _
        simp only [Act.put,List.setIfInBounds_toArray,List.set_cons_zero,List.set_cons_succ,i64_w,i32_w]
        rfl
       refine pure_ (i:=5) (N:=some 109) (v:=?_) (a':=?_) #[true,true,true,true,true,true,false,false,false,false,false] rfl rfl (any_of HT_.out (by kernel_rfl)) (fun _ _ _ h=>h) (Or.inl ⟨by rfl,?_⟩) ?_ ?_
       rotate_left
       ·intro w'
        go_simp
        with_reducible rfl
       rotate_left
       ·exact z47a
       refine pure_ (i:=6) (N:=some 110) (v:=?_) (a':=?_) #[true,true,true,true,true,true,true,false,false,false,false] rfl rfl (any_of HT_.out (by kernel_rfl)) (fun _ _ _ h=>h) (Or.inl ⟨by rfl,?_⟩) ?_ ?_
       rotate_left
       ·intro w'
        go_simp
        with_reducible rfl
       rotate_left
       ·exact z47a
       refine pure_ (i:=7) (N:=some 111) (v:=?_) (a':=?_) #[true,true,true,true,true,true,true,true,false,false,false] rfl rfl (any_of HT_.out (by kernel_rfl)) (fun _ _ _ h=>h) (Or.inl ⟨by rfl,?_⟩) ?_ ?_
       rotate_left
       ·intro w'
        go_simp
        with_reducible rfl
       rotate_left
       ·exact z47a
       refine pure_ (i:=8) (N:=some 2) (v:=?_) (a':=?_) #[true,true,true,true,true,true,true,true,true,false,false] rfl rfl (any_of HT_.out (by kernel_rfl)) (fun _ _ _ h=>h) (Or.inl ⟨by rfl,?_⟩) ?_ ?_
       rotate_left
       ·intro w'
        go_simp
        with_reducible rfl
       rotate_left
       ·exact z47a
       refine one_ (i:=9) (N:=none) #[true,true,true,true,true,true,true,true,true,true,false] rfl rfl (one_of HT_.out (by kernel_rfl)) (by decide) (fun K hK=>?_)
       have qqr : je.cell? ⟨qb,0,none⟩ = some (.int .i64 0):=(blk_cell qg.out 0).trans rfl
       have qow:=blk_frozen qg.out 0
       have qet:=qa.out
       have qgc:=qi.out
       have qqq : je.cell? ⟨qb,1,none⟩ = some (.int .i64 0):=(blk_cell qg.out 1).trans rfl
       have qov:=blk_frozen qg.out 1
       have qes:=qa.out
       have qgb:=qi.out
       have qqp : je.cell? ⟨qb,2,none⟩ = some (.int .i64 0):=(blk_cell qg.out 2).trans rfl
       have qou:=blk_frozen qg.out 2
       have qer:=qa.out
       have qga:=qi.out
       have qqo : je.cell? ⟨qb,3,none⟩ = some (.int .i64 0):=(blk_cell qg.out 3).trans rfl
       have qot:=blk_frozen qg.out 3
       have qeq:=qa.out
       have qfz:=qi.out
       have qqn : je.cell? ⟨qb,4,none⟩ = some (.int .i64 0):=(blk_cell qg.out 4).trans rfl
       have qos:=blk_frozen qg.out 4
       have qep:=qa.out
       have qfy:=qi.out
       have qqm : je.cell? ⟨qb,5,none⟩ = some (.int .i64 0):=(blk_cell qg.out 5).trans rfl
       have qor:=blk_frozen qg.out 5
       have qeo:=qa.out
       have qfx:=qi.out
       have qql : je.cell? ⟨qb,6,none⟩ = some (.int .i64 0):=(blk_cell qg.out 6).trans rfl
       have qoq:=blk_frozen qg.out 6
       have qen:=qa.out
       have qfw:=qi.out
       refine skip_ (w1:=?_) (by rfl) rfl ?_ ?_
       rotate_left
       ·go_simp
        rfl
       refine hK.out _ _ ⟨((cell_far (p:=⟨qb,_,none⟩) qa.out _).trans (((cell_far (p:=⟨qb,_,none⟩) qa.out _).trans (((cell_far (p:=⟨qb,_,none⟩) qa.out _).trans (((cell_far (p:=⟨qb,_,none⟩) qa.out _).trans (((cell_far (p:=⟨qb,_,none⟩) qa.out _).trans (((cell_far (p:=⟨qb,_,none⟩) qa.out _).trans (((cell_far (p:=⟨qb,_,none⟩) qa.out _).trans (hHeld.1)))))))))))))),((cell_far (p:=⟨qb,_,none⟩) qa.out _).trans (((cell_far (p:=⟨qb,_,none⟩) qa.out _).trans (((cell_far (p:=⟨qb,_,none⟩) qa.out _).trans (((cell_far (p:=⟨qb,_,none⟩) qa.out _).trans (((cell_far (p:=⟨qb,_,none⟩) qa.out _).trans (((cell_far (p:=⟨qb,_,none⟩) qa.out _).trans (((cell_far (p:=⟨qb,_,none⟩) qa.out _).trans (hHeld.2.1)))))))))))))),((cell_far (p:=⟨qb,_,none⟩) qa.out _).trans (((cell_far (p:=⟨qb,_,none⟩) qa.out _).trans (((cell_far (p:=⟨qb,_,none⟩) qa.out _).trans (((cell_far (p:=⟨qb,_,none⟩) qa.out _).trans (((cell_far (p:=⟨qb,_,none⟩) qa.out _).trans (((cell_far (p:=⟨qb,_,none⟩) qa.out _).trans (((cell_far (p:=⟨qb,_,none⟩) qa.out _).trans (hHeld.2.2.1)))))))))))))),((cell_far (p:=⟨qb,_,none⟩) qa.out _).trans (((cell_far (p:=⟨qb,_,none⟩) qa.out _).trans (((cell_far (p:=⟨qb,_,none⟩) qa.out _).trans (((cell_far (p:=⟨qb,_,none⟩) qa.out _).trans (((cell_far (p:=⟨qb,_,none⟩) qa.out _).trans (((cell_far (p:=⟨qb,_,none⟩) qa.out _).trans (((cell_far (p:=⟨qb,_,none⟩) qa.out _).trans (hHeld.2.2.2.1)))))))))))))),((cell_far (p:=⟨qb,_,none⟩) qa.out _).trans (((cell_far (p:=⟨qb,_,none⟩) qa.out _).trans (((cell_far (p:=⟨qb,_,none⟩) qa.out _).trans (((cell_far (p:=⟨qb,_,none⟩) qa.out _).trans (((cell_far (p:=⟨qb,_,none⟩) qa.out _).trans (((cell_far (p:=⟨qb,_,none⟩) qa.out _).trans (((cell_far (p:=⟨qb,_,none⟩) qa.out _).trans (hHeld.2.2.2.2.1)))))))))))))),((cell_far (p:=⟨qb,_,none⟩) qa.out _).trans (((cell_far (p:=⟨qb,_,none⟩) qa.out _).trans (((cell_far (p:=⟨qb,_,none⟩) qa.out _).trans (((cell_far (p:=⟨qb,_,none⟩) qa.out _).trans (((cell_far (p:=⟨qb,_,none⟩) qa.out _).trans (((cell_far (p:=⟨qb,_,none⟩) qa.out _).trans (((cell_far (p:=⟨qb,_,none⟩) qa.out _).trans (hHeld.2.2.2.2.2.1)))))))))))))),((cell_far (p:=⟨qb,_,none⟩) qa.out _).trans (((cell_far (p:=⟨qb,_,none⟩) qa.out _).trans (((cell_far (p:=⟨qb,_,none⟩) qa.out _).trans (((cell_far (p:=⟨qb,_,none⟩) qa.out _).trans (((cell_far (p:=⟨qb,_,none⟩) qa.out _).trans (((cell_far (p:=⟨qb,_,none⟩) qa.out _).trans (((cell_far (p:=⟨qb,_,none⟩) qa.out _).trans (hHeld.2.2.2.2.2.2))))))))))))))⟩ (fun hHeld=>?_)
       clear hK K
       refine pure_ (i:=10) (N:=some 4) (v:=?_) (a':=?_) #[true,true,true,true,true,true,true,true,true,true,true] rfl rfl (any_of HT_.out (by kernel_rfl)) (fun _ _ _ h=>h) (Or.inl ⟨by rfl,?_⟩) ?_ ?_
       rotate_left
       ·intro w'
        go_simp
        with_reducible rfl
       rotate_left
       ·exact z47a
       refine done_ (done_of HT_.out (by kernel_rfl)) ?_
       try go_wp2
       refine bodyPost_ret (results_list (rs:=[.tmp 2,.cell 3 41,.tmp 4]) rfl (by simp) (.tmp (.cell qb 41 #[.int .i64 qu,.int .i64 3,.int .i64 (wrap64 (1 + qv)),.int .i64 (wrap64 (qo + 1)),.int .i64 (wrap64 (1 + qz)),.int .i64 0,.int .i64 0] (0,0) _ rfl (by (with_reducible repeat (first|refine blk_drewN ?_ _|refine blk_drew ?_|refine blk_alloc ?_ _));refine blk_put (cs:=#[.int .i64 qu,.int .i64 3,.int .i64 (wrap64 (1 + qv)),.int .i64 (wrap64 (qo + 1)),.int .i64 (wrap64 (1 + qz)),.int .i64 0,.int .i64 0]) ?_ 6 _ rfl;(with_reducible repeat (first|refine blk_drewN ?_ _|refine blk_drew ?_|refine blk_alloc ?_ _));refine blk_put (cs:=#[.int .i64 qu,.int .i64 3,.int .i64 (wrap64 (1 + qv)),.int .i64 (wrap64 (qo + 1)),.int .i64 (wrap64 (1 + qz)),.int .i64 0,.int .i64 0]) ?_ 5 _ rfl;(with_reducible repeat (first|refine blk_drewN ?_ _|refine blk_drew ?_|refine blk_alloc ?_ _));refine blk_put (cs:=#[.int .i64 qu,.int .i64 3,.int .i64 (wrap64 (1 + qv)),.int .i64 (wrap64 (qo + 1)),.int .i64 0,.int .i64 0,.int .i64 0]) ?_ 4 _ rfl;(with_reducible repeat (first|refine blk_drewN ?_ _|refine blk_drew ?_|refine blk_alloc ?_ _));refine blk_put (cs:=#[.int .i64 qu,.int .i64 3,.int .i64 (wrap64 (1 + qv)),.int .i64 0,.int .i64 0,.int .i64 0,.int .i64 0]) ?_ 3 _ rfl;(with_reducible repeat (first|refine blk_drewN ?_ _|refine blk_drew ?_|refine blk_alloc ?_ _));refine blk_put (cs:=#[.int .i64 qu,.int .i64 3,.int .i64 0,.int .i64 0,.int .i64 0,.int .i64 0,.int .i64 0]) ?_ 2 _ rfl;(with_reducible repeat (first|refine blk_drewN ?_ _|refine blk_drew ?_|refine blk_alloc ?_ _));refine blk_put (cs:=#[.int .i64 qu,.int .i64 0,.int .i64 0,.int .i64 0,.int .i64 0,.int .i64 0,.int .i64 0]) ?_ 1 _ rfl;(with_reducible repeat (first|refine blk_drewN ?_ _|refine blk_drew ?_|refine blk_alloc ?_ _));refine blk_put (cs:=#[.int .i64 0,.int .i64 0,.int .i64 0,.int .i64 0,.int .i64 0,.int .i64 0,.int .i64 0]) ?_ 0 _ rfl;(with_reducible repeat (first|refine blk_drewN ?_ _|refine blk_drew ?_|refine blk_alloc ?_ _));exact qg.out) Try.underlying41 rfl (by kernel_rfl) (.tmp .nil)))) rfl ?_
       exact ⟨_,by first|rfl|(simp [errW_none,errW_some] <;> rfl)|(simp only [← vr];first|rfl|(simp [errW_none,errW_some] <;> rfl))|(simp [*,errW_none,errW_some] <;> rfl),by (with_reducible repeat (first|apply Kd.R_alloc|apply Kd.R_drewN|apply Kd.R_drew));exact Kd.R_mono (Kd.R_far (p:=⟨qb,6,none⟩) (Kd.R_far (p:=⟨qb,5,none⟩) (Kd.R_far (p:=⟨qb,4,none⟩) (Kd.R_far (p:=⟨qb,3,none⟩) (Kd.R_far (p:=⟨qb,2,none⟩) (Kd.R_far (p:=⟨qb,1,none⟩) (Kd.R_far (p:=⟨qb,0,none⟩) (Kd.R_mono HO_7.out (fun k_ hk=>(⟨hk,hk.1⟩ : _ ∧ k_ ≠ qb))) (fun _ hk=>hk.2) (.int .i64 qu)) (fun _ hk=>hk.2) (.int .i64 3)) (fun _ hk=>hk.2) (.int .i64 (wrap64 (1 + qv)))) (fun _ hk=>hk.2) (.int .i64 (wrap64 (qo + 1)))) (fun _ hk=>hk.2) (.int .i64 (wrap64 (1 + qz)))) (fun _ hk=>hk.2) (.int .i64 0)) (fun _ hk=>hk.2) (.int .i64 0)) (fun _ hk=>trivial),by repeat (first|(with_reducible first|exact HB.out|apply below_alloc|apply pw_below_drewN|apply below_drew1|refine below_set ?_ (IsS158.ge qc.out)|refine below_set ?_ qq.out|refine below_set ?_ we.out)|exact HB.out)⟩
      ·rw [if_neg ux] at H
       have qav : (wi == 2) = false:=beq_eq_false_iff_ne.mpr ux
       have qau : (wi != 2) = true:=bne_iff_ne.mpr ux
       by_cases uw : wi = 3
       ·rw [if_pos uw] at H
        have qat : (wi == 3) = true:=beq_iff_eq.mpr uw
        have qas : (wi != 3) = false:=bne_eq_false_iff_eq.mpr uw
        clear uw
        have H':=Aside0.mk H
        clear H
        go_wp2_with (first|((with_reducible refine gate_callee (f:=99) rfl ?_);refine goesL_ (some 45) rfl rfl Try.func99 (by kernel_rfl) rfl #[.pointer (some ⟨qm,0,none⟩)] rfl z47x19 ?_;(with_reducible refine (spec_l71Key.calls k1 qm qj wb qu vm w _ ?side1 ?side2 A42.out).mono ?_);(case side1=>repeat (first|(with_reducible first|exact qc.out|apply IsS158.alloc|apply IsS158.drewN|apply IsS158.drew|apply IsS158.set_1|refine IsS158.far ?_ qf.out _)|exact qc.out));(case side2=>repeat (first|(with_reducible first|exact HB.out|apply below_alloc|apply pw_below_drewN|apply below_drew1|refine below_set ?_ (IsS158.ge qc.out)|refine below_set ?_ qq.out)|exact HB.out));rintro e qtb ⟨rfl,hi,hb,hk⟩; refine ⟨_,rfl,?_⟩; have n0_:=Aside0.mk (Kd.R_mono (Kd.R_keep (IsS158.apart (show IsS158 w _ qm qj wb from by repeat (first|(with_reducible first|exact qc.out|apply IsS158.alloc|apply IsS158.drewN|apply IsS158.drew|apply IsS158.set_1|refine IsS158.far ?_ qf.out _)|exact qc.out)) z47x23 (by decide)) hk (fun _ h=>h.2)) (fun _ h=>h.1));have n1_:=Aside0.mk (KeepBut.blk hk (g':=qb) (o:=.cells #[.int .i64 0,.int .i64 0,.int .i64 0,.int .i64 0,.int .i64 0,.int .i64 0,.int .i64 0] 41 (0,0)) z47x21 ql.out (by simp));have n2_:=Aside0.mk (hb);have n3_:=Aside0.mk (hi);clear HO_7;clear qg;clear HB;clear qc;have HO_7:=n0_;have qg:=n1_;have HB:=n2_;have qc:=n3_;clear n0_ n1_ n2_ n3_;(try clear hb);(try clear hb2);(try clear hk);(try clear hi))|((with_reducible refine gate_callee (f:=70) rfl ?_);refine goesL_ (some 47) rfl rfl Try.func70 (by kernel_rfl) rfl #[.pointer (some ⟨qm,0,none⟩),.int .i64 3] rfl z47x19 ?_;(with_reducible refine (spec_l6Rd_pick.calls k1 qm qj vm 3 qv vl w _ ?side1 ?side2 A43.out).mono ?_);(case side1=>repeat (first|(with_reducible first|exact qc.out|apply IsS158.alloc|apply IsS158.drewN|apply IsS158.drew|apply IsS158.set_1|refine IsS158.far ?_ qf.out _)|exact qc.out));(case side2=>repeat (first|(with_reducible first|exact HB.out|apply below_alloc|apply pw_below_drewN|apply below_drew1|refine below_set ?_ (IsS158.ge qc.out)|refine below_set ?_ qq.out)|exact HB.out));rintro e qta ⟨rfl,hi,hb,hk⟩; refine ⟨_,rfl,?_⟩; have n0_:=Aside0.mk (Kd.R_mono (Kd.R_keep (IsS158.apart (show IsS158 w _ qm qj vm from by repeat (first|(with_reducible first|exact qc.out|apply IsS158.alloc|apply IsS158.drewN|apply IsS158.drew|apply IsS158.set_1|refine IsS158.far ?_ qf.out _)|exact qc.out)) z47x23 (by decide)) hk (fun _ h=>h.2)) (fun _ h=>h.1));have n1_:=Aside0.mk (KeepBut.blk hk (g':=qb) (o:=.cells #[.int .i64 0,.int .i64 0,.int .i64 0,.int .i64 0,.int .i64 0,.int .i64 0,.int .i64 0] 41 (0,0)) z47x21 ql.out (by simp));have n2_:=Aside0.mk (hb);have n3_:=Aside0.mk (hi);clear HO_7;clear qg;clear HB;clear qc;have HO_7:=n0_;have qg:=n1_;have HB:=n2_;have qc:=n3_;clear n0_ n1_ n2_ n3_;(try clear hb);(try clear hb2);(try clear hk);(try clear hi))|((with_reducible refine gate_callee (f:=70) rfl ?_);refine goesL_ (some 51) rfl rfl Try.func70 (by kernel_rfl) rfl #[.pointer (some ⟨qm,0,none⟩),.int .i64 3] rfl z47x19 ?_;(with_reducible refine (spec_l6Rd_pick.calls k1 qm qj vl 3 ub wx w _ ?side1 ?side2 A44.out).mono ?_);(case side1=>repeat (first|(with_reducible first|exact qc.out|apply IsS158.alloc|apply IsS158.drewN|apply IsS158.drew|apply IsS158.set_1|refine IsS158.far ?_ qf.out _)|exact qc.out));(case side2=>repeat (first|(with_reducible first|exact HB.out|apply below_alloc|apply pw_below_drewN|apply below_drew1|refine below_set ?_ (IsS158.ge qc.out)|refine below_set ?_ qq.out)|exact HB.out));rintro e qsz ⟨rfl,hi,hb,hk⟩; refine ⟨_,rfl,?_⟩; have n0_:=Aside0.mk (Kd.R_mono (Kd.R_keep (IsS158.apart (show IsS158 w _ qm qj vl from by repeat (first|(with_reducible first|exact qc.out|apply IsS158.alloc|apply IsS158.drewN|apply IsS158.drew|apply IsS158.set_1|refine IsS158.far ?_ qf.out _)|exact qc.out)) z47x23 (by decide)) hk (fun _ h=>h.2)) (fun _ h=>h.1));have n1_:=Aside0.mk (KeepBut.blk hk (g':=qb) (o:=.cells #[.int .i64 0,.int .i64 0,.int .i64 0,.int .i64 0,.int .i64 0,.int .i64 0,.int .i64 0] 41 (0,0)) z47x21 ql.out (by simp));have n2_:=Aside0.mk (hb);have n3_:=Aside0.mk (hi);clear HO_7;clear qg;clear HB;clear qc;have HO_7:=n0_;have qg:=n1_;have HB:=n2_;have qc:=n3_;clear n0_ n1_ n2_ n3_;(try clear hb);(try clear hb2);(try clear hk);(try clear hi))|((with_reducible refine gate_callee (f:=70) rfl ?_);refine goesL_ (some 55) rfl rfl Try.func70 (by kernel_rfl) rfl #[.pointer (some ⟨qm,0,none⟩),.int .i64 9] rfl z47x19 ?_;(with_reducible refine (spec_l6Rd_pick.calls k1 qm qj wx 9 qz wv w _ ?side1 ?side2 A46.out).mono ?_);(case side1=>repeat (first|(with_reducible first|exact qc.out|apply IsS158.alloc|apply IsS158.drewN|apply IsS158.drew|apply IsS158.set_1|refine IsS158.far ?_ qf.out _)|exact qc.out));(case side2=>repeat (first|(with_reducible first|exact HB.out|apply below_alloc|apply pw_below_drewN|apply below_drew1|refine below_set ?_ (IsS158.ge qc.out)|refine below_set ?_ qq.out)|exact HB.out));rintro e qsy ⟨rfl,hi,hb,hk⟩; refine ⟨_,rfl,?_⟩; have n0_:=Aside0.mk (Kd.R_mono (Kd.R_keep (IsS158.apart (show IsS158 w _ qm qj wx from by repeat (first|(with_reducible first|exact qc.out|apply IsS158.alloc|apply IsS158.drewN|apply IsS158.drew|apply IsS158.set_1|refine IsS158.far ?_ qf.out _)|exact qc.out)) z47x23 (by decide)) hk (fun _ h=>h.2)) (fun _ h=>h.1));have n1_:=Aside0.mk (KeepBut.blk hk (g':=qb) (o:=.cells #[.int .i64 0,.int .i64 0,.int .i64 0,.int .i64 0,.int .i64 0,.int .i64 0,.int .i64 0] 41 (0,0)) z47x21 ql.out (by simp));have n2_:=Aside0.mk (hb);have n3_:=Aside0.mk (hi);clear HO_7;clear qg;clear HB;clear qc;have HO_7:=n0_;have qg:=n1_;have HB:=n2_;have qc:=n3_;clear n0_ n1_ n2_ n3_;(try clear hb);(try clear hb2);(try clear hk);(try clear hi))|((with_reducible refine gate_dst (N:=10) rfl ?_);refine box_event ?hg (N:=10) ?hd (cs:=#[.int .i64 0,.int .i64 0,.int .i64 0,.int .i64 0,.int .i64 0,.int .i64 0,.int .i64 0]) (t:=41) ?hr ?_;(case hd=>rfl);(case hg=>rfl);(case hr=>first|(go_simp;done)|(go_simp;rfl));intro qe hg jd hbox hb;have n0_:=Aside0.mk (Kd.R_below (Kd.R_elderB z47x23 qe (Nat.le_of_eq hg.symm)) hb);have n1_:=Aside0.mk (blk_below (g:=qb) (o:=.cells #[.int .i64 0,.int .i64 0,.int .i64 0,.int .i64 0,.int .i64 0,.int .i64 0,.int .i64 0] 41 (0,0)) z47x21 hb);have n2_:=Aside0.mk (IsS158.below z47x18 hb);have n3_:=Aside0.mk (below_step z47x17 hb);have n4_:=Aside0.mk (hbox);have n5_:=Aside0.mk ((z47x15 : w.heap.size ≤ qe));have n6_:=Aside0.mk ((z47x15 : w.heap.size ≤ qe));have n7_:=Aside0.mk ((z47x8 : qb ≠ qe));have n8_:=Aside0.mk ((z47x7 : qe ≠ qb));have n9_:=Aside0.mk ((z47x12 : qm ≠ qe));have n10_:=Aside0.mk ((z47x10 : qe ≠ qm));clear HO_7;clear qg;clear qc;clear HB;have HO_7:=n0_;have qg:=n1_;have qc:=n2_;have HB:=n3_;have qd:=n4_;have uo:=n5_;have we:=n6_;have qi:=n7_;have qa:=n8_;have qk:=n9_;have qt:=n10_;clear n0_ n1_ n2_ n3_ n4_ n5_ n6_ n7_ n8_ n9_ n10_;clear hb hbox hg;have qnq:=qa.out;have qng:=qi.out;have qnp:=qt.out;have qnf:=qk.out;have pv : jd.cell? ⟨qe,0,none⟩ = some (.int .i64 0):=(blk_cell qd.out 0).trans rfl;have pu : jd.cell? ⟨qe,1,none⟩ = some (.int .i64 0):=(blk_cell qd.out 1).trans rfl;have pt : jd.cell? ⟨qe,2,none⟩ = some (.int .i64 0):=(blk_cell qd.out 2).trans rfl;have pr : jd.cell? ⟨qe,3,none⟩ = some (.int .i64 0):=(blk_cell qd.out 3).trans rfl;have pq : jd.cell? ⟨qe,4,none⟩ = some (.int .i64 0):=(blk_cell qd.out 4).trans rfl;have pp : jd.cell? ⟨qe,5,none⟩ = some (.int .i64 0):=(blk_cell qd.out 5).trans rfl;have po : jd.cell? ⟨qe,6,none⟩ = some (.int .i64 0):=(blk_cell qd.out 6).trans rfl;have gs:=blk_frozen qd.out 0;have gr:=blk_frozen qd.out 1;have gq:=blk_frozen qd.out 2;have gp:=blk_frozen qd.out 3;have gn:=blk_frozen qd.out 4;have gm:=blk_frozen qd.out 5;have gl:=blk_frozen qd.out 6)|((with_reducible refine gate_callee (f:=70) rfl ?_);refine goesL_ (some 59) rfl rfl Try.func70 (by kernel_rfl) rfl #[.pointer (some ⟨qm,0,none⟩),.int .i64 12] rfl z47x19 ?_;(with_reducible refine (spec_l6Rd_pick.calls k1 qm qj wv 12 wi wn w _ ?side1 ?side2 A47.out).mono ?_);(case side1=>repeat (first|(with_reducible first|exact qc.out|apply IsS158.alloc|apply IsS158.drewN|apply IsS158.drew|apply IsS158.set_1|refine IsS158.far ?_ qf.out _|refine IsS158.far ?_ qk.out _)|exact qc.out));(case side2=>repeat (first|(with_reducible first|exact HB.out|apply below_alloc|apply pw_below_drewN|apply below_drew1|refine below_set ?_ (IsS158.ge qc.out)|refine below_set ?_ qq.out|refine below_set ?_ we.out)|exact HB.out));rintro e qsx ⟨rfl,hi,hb,hk⟩; refine ⟨_,rfl,?_⟩; have n0_:=Aside0.mk (Kd.R_mono (Kd.R_keep (IsS158.apart (show IsS158 w _ qm qj wv from by repeat (first|(with_reducible first|exact qc.out|apply IsS158.alloc|apply IsS158.drewN|apply IsS158.drew|apply IsS158.set_1|refine IsS158.far ?_ qf.out _|refine IsS158.far ?_ qk.out _)|exact qc.out)) z47x6 (by decide)) hk (fun _ h=>h.2)) (fun _ h=>h.1));have n1_:=Aside0.mk (KeepBut.blk hk (g':=qb) (o:=.cells #[.int .i64 0,.int .i64 0,.int .i64 0,.int .i64 0,.int .i64 0,.int .i64 0,.int .i64 0] 41 (0,0)) z47x4 ql.out (by simp));have n2_:=Aside0.mk (KeepBut.blk hk (g':=qe) (o:=.cells #[.int .i64 qu,.int .i64 3,.int .i64 (wrap64 (1 + qv)),.int .i64 wc,.int .i64 (wrap64 (1 + qz)),.int .i64 0,.int .i64 0] 41 (0,0)) z47x2 qt.out (by simp));have n3_:=Aside0.mk (hb);have n4_:=Aside0.mk (hi);clear HO_7;clear qg;clear qd;clear HB;clear qc;have HO_7:=n0_;have qg:=n1_;have qd:=n2_;have HB:=n3_;have qc:=n4_;clear n0_ n1_ n2_ n3_ n4_;(try clear hb);(try clear hb2);(try clear hk);(try clear hi)))
        go_loopg [7] k1 (fun kq v7 w' => ∃ (vq : List (S41)) (wo : Int),Aside0 (spec_DrawCacheWith.l1 kq qo vq qj wo qu 3 (wrap64 (1 + qv)) wc (wrap64 (1 + qz)) 0 0 = some (r1,r2,r3,r4,r5,r6,r7,r8,r9)) ∧ Aside0 (kq ≤ k1) ∧ Aside0 (Kd.R k41 41 w' w.heap.size (fun k_=>k_ ≠ qb ∧ k_ ≠ qe) v7 vq) ∧ Aside0 (w'.heap[qb]? = some (.cells #[.int .i64 0,.int .i64 0,.int .i64 0,.int .i64 0,.int .i64 0,.int .i64 0,.int .i64 0] 41 (0,0))) ∧ Aside0 (w'.heap[qe]? = some (.cells #[.int .i64 qu,.int .i64 3,.int .i64 (wrap64 (1 + qv)),.int .i64 wc,.int .i64 (wrap64 (1 + qz)),.int .i64 0,.int .i64 0] 41 (0,0))) ∧ Aside0 (IsS158 w w' qm qj wo) ∧ Aside0 (Below w.heap.size w w'))
        case atStart=>exact ⟨(qh),(wn),H',⟨Nat.le_refl _⟩,⟨by (with_reducible repeat (first|apply Kd.R_alloc|apply Kd.R_drewN|apply Kd.R_drew));exact HO_7.out⟩,⟨by (with_reducible repeat (first|refine blk_drewN ?_ _|refine blk_drew ?_|refine blk_alloc ?_ _));exact qg.out⟩,⟨by (with_reducible repeat (first|refine blk_drewN ?_ _|refine blk_drew ?_|refine blk_alloc ?_ _));exact qd.out⟩,⟨by repeat (first|(with_reducible first|exact qc.out|apply IsS158.alloc|apply IsS158.drewN|apply IsS158.drew|apply IsS158.set_1|refine IsS158.far ?_ qf.out _|refine IsS158.far ?_ qk.out _)|exact qc.out)⟩,⟨by repeat (first|(with_reducible first|exact HB.out|apply below_alloc|apply pw_below_drewN|apply below_drew1|refine below_set ?_ (IsS158.ge qc.out)|refine below_set ?_ qq.out|refine below_set ?_ we.out)|exact HB.out)⟩⟩
        case round =>
         clear H'
         try clear c1
         try clear p2
         try clear p6
         try clear q6
         try clear hx6
         try clear c7
         try clear c8
         try clear c9
         try clear c10
         try clear c12
         try clear c14
         try clear p64
         try clear p65
         try clear q65
         try clear qtq
         try clear c70
         try clear c72
         try clear qcp
         try clear qco
         try clear c73
         try clear qcn
         try clear qcm
         try clear c75
         try clear qhs
         try clear c76
         try clear qhr
         try clear c83
         try clear c84
         try clear c99
         try clear qul
         try clear quk
         try clear ux
         try clear qav
         try clear qau
         try clear quj
         try clear qui
         try clear uw
         try clear qat
         try clear qas
         try clear quh
         try clear qug
         try clear qar
         try clear qaq
         try clear qap
         try clear qao
         try clear qan
         try clear qam
         try clear qal
         try clear qak
         try clear qaj
         try clear qai
         try clear qah
         try clear qag
         try clear qaf
         try clear qae
         try clear qad
         try clear qac
         try clear qab
         try clear qaa
         try clear pz
         try clear px
         try clear pw
         try clear pv
         try clear pu
         try clear pt
         try clear pr
         try clear pq
         try clear pp
         try clear po
         try clear qcj
         try clear qci
         try clear qch
         try clear qcg
         try clear qcf
         try clear qce
         try clear qcd
         try clear qcc
         try clear qcb
         try clear qca
         try clear qbz
         try clear qby
         try clear qbx
         try clear qbw
         try clear pn
         try clear pm
         try clear pl
         try clear pk
         try clear pj
         try clear pi
         try clear ph
         try clear pg
         try clear pf
         try clear pe
         try clear pd
         try clear pc
         try clear pb
         try clear pa
         try clear gz
         try clear gy
         try clear gx
         try clear gw
         try clear gv
         try clear gu
         try clear gt
         try clear gs
         try clear gr
         try clear gq
         try clear gp
         try clear gn
         try clear gm
         try clear gl
         try clear qbv
         try clear qbu
         try clear qbt
         try clear qbs
         try clear qbr
         try clear qbq
         try clear qbp
         try clear qbo
         try clear qbn
         try clear qbm
         try clear qbl
         try clear qbk
         try clear qbj
         try clear qbi
         try clear qbh
         try clear qbg
         try clear qbf
         try clear qbe
         try clear qbd
         try clear qbc
         try clear qbb
         try clear qba
         try clear qaz
         obtain ⟨vq,wo,HA,HK2,HO_7,qg,qd,qc,HB⟩:=hrel
         cases gk with
         | zero=>exact absurd HA.out (by simp [spec_DrawCacheWith.l1])
         | succ k2 =>
          have H:=HA.out
          clear HA
          simp only [spec_DrawCacheWith.l1] at H
          replace H:=Option.bind_eq_some_iff.mp H
          obtain ⟨⟨gc,uq⟩,qcv,H⟩:=H
          replace H : (if (vq.length : Int) < (wrap64 (20 + gc)) then (if vq.length < 2513169434916 then (spec_DrawCacheWith.l1 k2 qo (vq ++ [(⟨wrap64 (30 + (vq.length : Int)),3,1,qo,1,0,0⟩ : S41)]) qj uq qu 3 (wrap64 (1 + qv)) wc (wrap64 (1 + qz)) 0 0) else (none)) else ((spec_l6Rd_pick.f k2 qj uq 30).bind fun qaw=>(some (vq,qu,3,(wrap64 (1 + qv)),wc,(wrap64 (1 + qz)),0,0,wrap64 (qo + (wrap64 ((wrap64 (Int.tdiv qaw.1 29)) * 100))))))) = some (r1,r2,r3,r4,r5,r6,r7,r8,r9):=H
          have qir:=Aside0.mk qcv
          clear qcv
          by_cases gf : (vq.length : Int) < (wrap64 (20 + gc))
          ·rw [if_pos gf] at H
           have qdf : decide ((vq.length : Int) < (wrap64 (20 + gc))) = true:=decide_eq_true gf
           clear gf
           by_cases qcl : vq.length < 2513169434916
           rotate_left
           ·rw [if_neg qcl] at H
            exact absurd H (by simp)
           rw [if_pos qcl] at H
           have qdh:=Aside0.mk qcl
           clear qcl
           obtain ⟨qdj,ut⟩ : ∃ y_ : List (S41),y_ = (vq ++ [(⟨wrap64 (30 + (vq.length : Int)),3,1,qo,1,0,0⟩ : S41)]):=⟨_,rfl⟩
           replace H : (spec_DrawCacheWith.l1 k2 qo qdj qj uq qu 3 (wrap64 (1 + qv)) wc (wrap64 (1 + qz)) 0 0) = some (r1,r2,r3,r4,r5,r6,r7,r8,r9):=by first|(rw [ut];with_reducible exact H)|(have H2_:=(Option.bind_some _ _).symm.trans H;rw [ut];with_reducible exact H2_)|(have H2_:=(Option.bind_some _ _).symm.trans H;with_reducible exact H2_)|with_reducible exact H|(rw [ut];exact H)|exact H
           have qhy:=Aside0.mk ut
           clear ut
           have H':=Aside0.mk H
           clear H
           obtain ⟨qif,qhq,qhn⟩:=Kd.R_slice HO_7.out
           subst qhn
           go_wp2_with (first|((with_reducible refine gate_callee (f:=70) rfl ?_);refine goesL_ (some 86) rfl rfl Try.func70 (by kernel_rfl) rfl #[.pointer (some ⟨qm,0,none⟩),.int .i64 2] rfl z47x19 ?_;(with_reducible refine (spec_l6Rd_pick.calls k2 qm qj wo 2 gc uq w _ ?side1 ?side2 qir.out).mono ?_);(case side1=>repeat (first|(with_reducible first|exact qc.out|apply IsS158.alloc|apply IsS158.drewN|apply IsS158.drew|apply IsS158.set_1|refine IsS158.far ?_ qf.out _|refine IsS158.far ?_ qk.out _)|exact qc.out));(case side2=>repeat (first|(with_reducible first|exact HB.out|apply below_alloc|apply pw_below_drewN|apply below_drew1|refine below_set ?_ (IsS158.ge qc.out)|refine below_set ?_ qq.out|refine below_set ?_ we.out)|exact HB.out));rintro e qsw ⟨rfl,hi,hb,hk⟩; refine ⟨_,rfl,?_⟩; have n0_:=Aside0.mk (Kd.R_mono (Kd.R_keep (IsS158.apart (show IsS158 w _ qm qj wo from by repeat (first|(with_reducible first|exact qc.out|apply IsS158.alloc|apply IsS158.drewN|apply IsS158.drew|apply IsS158.set_1|refine IsS158.far ?_ qf.out _|refine IsS158.far ?_ qk.out _)|exact qc.out)) z47x23 (by decide)) hk (fun _ h=>h.2)) (fun _ h=>h.1));have n1_:=Aside0.mk (KeepBut.blk hk (g':=qb) (o:=.cells #[.int .i64 0,.int .i64 0,.int .i64 0,.int .i64 0,.int .i64 0,.int .i64 0,.int .i64 0] 41 (0,0)) z47x21 ql.out (by simp));have n2_:=Aside0.mk (KeepBut.blk hk (g':=qe) (o:=.cells #[.int .i64 qu,.int .i64 3,.int .i64 (wrap64 (1 + qv)),.int .i64 wc,.int .i64 (wrap64 (1 + qz)),.int .i64 0,.int .i64 0] 41 (0,0)) z47x22 qt.out (by simp));have n3_:=Aside0.mk (hb);have n4_:=Aside0.mk (hi);clear HO_7;clear qg;clear qd;clear HB;clear qc;have HO_7:=n0_;have qg:=n1_;have qd:=n2_;have HB:=n3_;have qc:=n4_;clear n0_ n1_ n2_ n3_ n4_;(try clear hb);(try clear hb2);(try clear hk);(try clear hi))|((with_reducible refine gate_builtin (b:=.append) (xs:=#[.tmp 89,.tmp 95]) rfl ?_);at_builtin;refine Kd.R_append k41 (w0:=w) w.heap.size rfl (.tmp 89) (.tmp 95) 32 41 (.agg #[(.int .i64 0),(.int .i64 0),(.int .i64 0),(.int .i64 0),(.int .i64 0),(.int .i64 0),(.int .i64 0)]) 56 rfl Try.underlying32 info41 rfl (by decide) (by omega) (.slice qif vq.length qhq) vq (⟨wrap64 (30 + (vq.length : Int)),3,1,qo,1,0,0⟩ : S41) [.int .i64 (wrap64 (30 + (vq.length : Int))),.int .i64 3,.int .i64 1,.int .i64 qo,.int .i64 1,.int .i64 0,.int .i64 0] (fun k_=>k_ ≠ qb ∧ k_ ≠ qe) (fun _=>False) rfl rfl ?aP (fun _ hk=>hk.elim) ?aF ?aO ?aB ?aS ?aL ?_;(case aP=>exact k41_mkM _ _ _ (⟨wrap64 (30 + (vq.length : Int)),3,1,qo,1,0,0⟩ : S41));(case aB=>exact z47x14);(case aF=>exact (fun k_ hk=>⟨Kd.freshB (g:=qb) (o:=.cells #[.int .i64 0,.int .i64 0,.int .i64 0,.int .i64 0,.int .i64 0,.int .i64 0,.int .i64 0] 41 (0,0)) z47x21 k_ hk,Kd.freshB (g:=qe) (o:=.cells #[.int .i64 qu,.int .i64 3,.int .i64 (wrap64 (1 + qv)),.int .i64 wc,.int .i64 (wrap64 (1 + qz)),.int .i64 0,.int .i64 0] 41 (0,0)) z47x22 k_ hk⟩));(case aO=>exact z47x23);(case aS=>exact (below_size z47x14));(case aL=>have:=qdh.out;omega);intro qtn qsv ho hb hg hat;rw [← qhy.out] at ho;have n0_:=Aside0.mk (blk_grown (g:=qb) (o:=.cells #[.int .i64 0,.int .i64 0,.int .i64 0,.int .i64 0,.int .i64 0,.int .i64 0,.int .i64 0] 41 (0,0)) z47x21 hg (Kd.R_away HO_7.out (fun _ hk=>hk.1)));have n1_:=Aside0.mk (blk_grown (g:=qe) (o:=.cells #[.int .i64 qu,.int .i64 3,.int .i64 (wrap64 (1 + qv)),.int .i64 wc,.int .i64 (wrap64 (1 + qz)),.int .i64 0,.int .i64 0] 41 (0,0)) z47x22 hg (Kd.R_away HO_7.out (fun _ hk=>hk.2)));have n2_:=Aside0.mk (IsS158.grown z47x16 hg (IsS158.own_ne qc.out HO_7.out (by decide)));have n3_:=Aside0.mk (hb);have n4_:=Aside0.mk (ho);clear qg;clear qd;clear qc;clear HB;clear HO_7;have qg:=n0_;have qd:=n1_;have qc:=n2_;have HB:=n3_;have qib:=n4_;clear n0_ n1_ n2_ n3_ n4_;clear ho hb hg hat))
           go_roundg k2
           case measure=>have:=HK1.out;have:=HK2.out;omega
           case rel=>exact ⟨(qdj),(uq),H',⟨by have:=HK1.out;have:=HK2.out;omega⟩,⟨by (with_reducible repeat (first|apply Kd.R_alloc|apply Kd.R_drewN|apply Kd.R_drew));exact qib.out⟩,⟨by (with_reducible repeat (first|refine blk_drewN ?_ _|refine blk_drew ?_|refine blk_alloc ?_ _));exact qg.out⟩,⟨by (with_reducible repeat (first|refine blk_drewN ?_ _|refine blk_drew ?_|refine blk_alloc ?_ _));exact qd.out⟩,⟨by repeat (first|(with_reducible first|exact qc.out|apply IsS158.alloc|apply IsS158.drewN|apply IsS158.drew|apply IsS158.set_1|refine IsS158.far ?_ qf.out _|refine IsS158.far ?_ qk.out _)|exact qc.out)⟩,⟨by repeat (first|(with_reducible first|exact HB.out|apply below_alloc|apply pw_below_drewN|apply below_drew1|refine below_set ?_ (IsS158.ge qc.out)|refine below_set ?_ qq.out|refine below_set ?_ we.out)|exact HB.out)⟩⟩
          ·rw [if_neg gf] at H
           have qdf : decide ((vq.length : Int) < (wrap64 (20 + gc))) = false:=decide_eq_false gf
           clear gf
           replace H:=Option.bind_eq_some_iff.mp H
           obtain ⟨⟨qdn,qmw⟩,qcu,H⟩:=H
           replace H : (some (vq,qu,3,(wrap64 (1 + qv)),wc,(wrap64 (1 + qz)),0,0,wrap64 (qo + (wrap64 ((wrap64 (Int.tdiv qdn 29)) * 100))))) = some (r1,r2,r3,r4,r5,r6,r7,r8,r9):=H
           have qpn:=Aside0.mk qcu
           clear qcu
           simp only [Option.some.injEq,Prod.mk.injEq] at H
           obtain ⟨rfl,rfl,rfl,rfl,rfl,rfl,rfl,rfl,rfl⟩:=H
           obtain ⟨qsg,qsd,qhm⟩:=Kd.R_slice HO_7.out
           subst qhm
           try go_wp2_with (first|((with_reducible refine gate_callee (f:=70) rfl ?_);refine goesL_ (some 86) rfl rfl Try.func70 (by kernel_rfl) rfl #[.pointer (some ⟨qm,0,none⟩),.int .i64 2] rfl z47x19 ?_;(with_reducible refine (spec_l6Rd_pick.calls k2 qm qj wo 2 gc uq w _ ?side1 ?side2 qir.out).mono ?_);(case side1=>repeat (first|(with_reducible first|exact qc.out|apply IsS158.alloc|apply IsS158.drewN|apply IsS158.drew|apply IsS158.set_1|refine IsS158.far ?_ qf.out _|refine IsS158.far ?_ qk.out _)|exact qc.out));(case side2=>repeat (first|(with_reducible first|exact HB.out|apply below_alloc|apply pw_below_drewN|apply below_drew1|refine below_set ?_ (IsS158.ge qc.out)|refine below_set ?_ qq.out|refine below_set ?_ we.out)|exact HB.out));rintro e qmr ⟨rfl,hi,hb,hk⟩; refine ⟨_,rfl,?_⟩; have n0_:=Aside0.mk (Kd.R_mono (Kd.R_keep (IsS158.apart (show IsS158 w _ qm qj wo from by repeat (first|(with_reducible first|exact qc.out|apply IsS158.alloc|apply IsS158.drewN|apply IsS158.drew|apply IsS158.set_1|refine IsS158.far ?_ qf.out _|refine IsS158.far ?_ qk.out _)|exact qc.out)) z47x23 (by decide)) hk (fun _ h=>h.2)) (fun _ h=>h.1));have n1_:=Aside0.mk (KeepBut.blk hk (g':=qb) (o:=.cells #[.int .i64 0,.int .i64 0,.int .i64 0,.int .i64 0,.int .i64 0,.int .i64 0,.int .i64 0] 41 (0,0)) z47x21 ql.out (by simp));have n2_:=Aside0.mk (KeepBut.blk hk (g':=qe) (o:=.cells #[.int .i64 qu,.int .i64 3,.int .i64 (wrap64 (1 + qv)),.int .i64 wc,.int .i64 (wrap64 (1 + qz)),.int .i64 0,.int .i64 0] 41 (0,0)) z47x22 qt.out (by simp));have n3_:=Aside0.mk (hb);have n4_:=Aside0.mk (hi);clear HO_7;clear qg;clear qd;clear HB;clear qc;have HO_7:=n0_;have qg:=n1_;have qd:=n2_;have HB:=n3_;have qc:=n4_;clear n0_ n1_ n2_ n3_ n4_;(try clear hb);(try clear hb2);(try clear hk);(try clear hi)))
           have n0_:=Aside0.mk (Kd.R_drew HO_7.out)
           have n1_:=Aside0.mk (blk_drew qg.out)
           have n2_:=Aside0.mk (blk_drew qd.out)
           have n3_:=Aside0.mk (IsS158.drew qc.out)
           have n4_:=Aside0.mk (below_drew1 HB.out)
           clear HO_7
           clear qg
           clear qd
           clear qc
           clear HB
           have HO_7:=n0_
           have qg:=n1_
           have qd:=n2_
           have qc:=n3_
           have HB:=n4_
           clear n0_ n1_ n2_ n3_ n4_
           refine start_ (n:=11) (S:=fun w' => w'.cell? ⟨qe,0,none⟩ = some (.int .i64 qu) ∧ w'.cell? ⟨qe,1,none⟩ = some (.int .i64 3) ∧ w'.cell? ⟨qe,2,none⟩ = some (.int .i64 (wrap64 (1 + qv))) ∧ w'.cell? ⟨qe,3,none⟩ = some (.int .i64 wc) ∧ w'.cell? ⟨qe,4,none⟩ = some (.int .i64 (wrap64 (1 + qz))) ∧ w'.cell? ⟨qe,5,none⟩ = some (.int .i64 0) ∧ w'.cell? ⟨qe,6,none⟩ = some (.int .i64 0)) (ds:=[]) #[false,false,false,false,false,false,false,false,false,false,false] (by kernel_rfl) rfl rfl ⟨(blk_cell qd.out 0).trans rfl,(blk_cell qd.out 1).trans rfl,(blk_cell qd.out 2).trans rfl,(blk_cell qd.out 3).trans rfl,(blk_cell qd.out 4).trans rfl,(blk_cell qd.out 5).trans rfl,(blk_cell qd.out 6).trans rfl⟩ (fun hHeld=>?_);refine with_tabW spec_DrawCacheWith.tab24 spec_DrawCacheWith.bits24 (fun HT_ HW_=>?_)
           generalize qmr.drew = qsu at HO_7 qg qd qc HB hHeld ⊢
           refine pure_ (i:=0) (N:=some 104) (v:=?_) (a':=?_) #[true,false,false,false,false,false,false,false,false,false,false] rfl rfl (any_of HT_.out (by kernel_rfl)) (fun _ _ _ h=>h) (Or.inl ⟨by rfl,?_⟩) ?_ ?_
           rotate_left
           ·intro w'
            go_simp
            with_reducible rfl
           rotate_left
           ·exact z47a
           refine pure_ (i:=2) (N:=some 106) (v:=?_) (a':=?_) #[true,false,true,false,false,false,false,false,false,false,false] rfl rfl (any_of HT_.out (by kernel_rfl)) (fun _ _ _ h=>h) (Or.inl ⟨by rfl,?_⟩) ?_ ?_
           rotate_left
           ·intro w'
            go_simp
            with_reducible rfl
           rotate_left
           ·exact z47a
           refine pure_ (i:=3) (N:=some 107) (v:=?_) (a':=?_) #[true,false,true,true,false,false,false,false,false,false,false] rfl rfl (any_of HT_.out (by kernel_rfl)) (fun _ _ _ h=>h) (Or.inl ⟨by rfl,?_⟩) ?_ ?_
           rotate_left
           ·intro w'
            go_simp
            with_reducible rfl
           rotate_left
           ·exact z47a
           refine take_ (i:=1) (N:=some 105) (v:=?_) (a':=?_) #[true,true,true,true,false,false,false,false,false,false,false] rfl rfl (take_ofW HT_.out HW_.out (by kernel_rfl)) (fun _ _ _ h=>h) (Or.inl ⟨by rfl,?_⟩) hHeld ?_ ?_
           rotate_left
           ·rintro w' ⟨s0,s1,s2,s3,s4,s5,s6⟩
            go_simp
            with_reducible rfl
           rotate_left
           ·exact z47a
           refine one_ (i:=4) (N:=some 108) #[true,true,true,true,true,false,false,false,false,false,false] rfl rfl (one_of HT_.out (by kernel_rfl)) (by decide) (fun K hK=>?_)
           refine goes_ Try.func70 (by kernel_rfl) rfl #[.pointer (some ⟨qm,0,none⟩),.int .i64 30] (by rfl) rfl rfl z47x19 ?_
           with_reducible refine (spec_l6Rd_pick.calls k2 qm qj uq 30 qdn qmw w _ ?side1 ?side2 qpn.out).mono ?_
           (case side1=>repeat (first|(with_reducible first|exact qc.out|apply IsS158.alloc|apply IsS158.drewN|apply IsS158.drew|apply IsS158.set_1|refine IsS158.far ?_ qf.out _|refine IsS158.far ?_ qk.out _)|exact qc.out))
           (case side2=>repeat (first|(with_reducible first|exact HB.out|apply below_alloc|apply pw_below_drewN|apply below_drew1|refine below_set ?_ (IsS158.ge qc.out)|refine below_set ?_ qq.out|refine below_set ?_ we.out)|exact HB.out))
           rintro e jc ⟨rfl,hi,hb,hk⟩
           refine ⟨_,rfl,?_⟩
           have n0_:=Aside0.mk (Kd.R_mono (Kd.R_keep (IsS158.apart (show IsS158 w _ qm qj uq from by repeat (first|(with_reducible first|exact qc.out|apply IsS158.alloc|apply IsS158.drewN|apply IsS158.drew|apply IsS158.set_1|refine IsS158.far ?_ qf.out _|refine IsS158.far ?_ qk.out _)|exact qc.out)) z47x23 (by decide)) hk (fun _ h=>h.2)) (fun _ h=>h.1))
           have n1_:=Aside0.mk (KeepBut.blk hk (g':=qb) (o:=.cells #[.int .i64 0,.int .i64 0,.int .i64 0,.int .i64 0,.int .i64 0,.int .i64 0,.int .i64 0] 41 (0,0)) z47x21 ql.out (by simp))
           have n2_:=Aside0.mk (KeepBut.blk hk (g':=qe) (o:=.cells #[.int .i64 qu,.int .i64 3,.int .i64 (wrap64 (1 + qv)),.int .i64 wc,.int .i64 (wrap64 (1 + qz)),.int .i64 0,.int .i64 0] 41 (0,0)) z47x22 qt.out (by simp))
           have n3_:=Aside0.mk (hb)
           have n4_:=Aside0.mk (hi)
           clear HO_7
           clear qg
           clear qd
           clear HB
           clear qc
           have HO_7:=n0_
           have qg:=n1_
           have qd:=n2_
           have HB:=n3_
           have qc:=n4_
           clear n0_ n1_ n2_ n3_ n4_
           (try clear hb)
           (try clear hb2)
           (try clear hk)
           (try clear hi)
           refine hK.out _ _ ⟨(blk_cell qd.out 0).trans rfl,(blk_cell qd.out 1).trans rfl,(blk_cell qd.out 2).trans rfl,(blk_cell qd.out 3).trans rfl,(blk_cell qd.out 4).trans rfl,(blk_cell qd.out 5).trans rfl,(blk_cell qd.out 6).trans rfl⟩ (fun hHeld=>?_)
           clear hK K
           refine norm_ (a':=?_) ?_ ?_
           rotate_left
           ·show Act.put _ (some 108) _ = _
            simp only [Act.put,List.setIfInBounds_toArray,List.set_cons_zero,List.set_cons_succ,i64_w,i32_w]
            rfl
           refine pure_ (i:=5) (N:=some 109) (v:=?_) (a':=?_) #[true,true,true,true,true,true,false,false,false,false,false] rfl rfl (any_of HT_.out (by kernel_rfl)) (fun _ _ _ h=>h) (Or.inl ⟨by rfl,?_⟩) ?_ ?_
           rotate_left
           ·intro w'
            go_simp
            with_reducible rfl
           rotate_left
           ·exact z47a
           refine pure_ (i:=6) (N:=some 110) (v:=?_) (a':=?_) #[true,true,true,true,true,true,true,false,false,false,false] rfl rfl (any_of HT_.out (by kernel_rfl)) (fun _ _ _ h=>h) (Or.inl ⟨by rfl,?_⟩) ?_ ?_
           rotate_left
           ·intro w'
            go_simp
            with_reducible rfl
           rotate_left
           ·exact z47a
           refine pure_ (i:=7) (N:=some 111) (v:=?_) (a':=?_) #[true,true,true,true,true,true,true,true,false,false,false] rfl rfl (any_of HT_.out (by kernel_rfl)) (fun _ _ _ h=>h) (Or.inl ⟨by rfl,?_⟩) ?_ ?_
           rotate_left
           ·intro w'
            go_simp
            with_reducible rfl
           rotate_left
           ·exact z47a
           refine pure_ (i:=8) (N:=some 2) (v:=?_) (a':=?_) #[true,true,true,true,true,true,true,true,true,false,false] rfl rfl (any_of HT_.out (by kernel_rfl)) (fun _ _ _ h=>h) (Or.inl ⟨by rfl,?_⟩) ?_ ?_
           rotate_left
           ·intro w'
            go_simp
            with_reducible rfl
           rotate_left
           ·exact z47a
           refine one_ (i:=9) (N:=none) #[true,true,true,true,true,true,true,true,true,true,false] rfl rfl (one_of HT_.out (by kernel_rfl)) (by decide) (fun K hK=>?_)
           have qqk : jc.cell? ⟨qb,0,none⟩ = some (.int .i64 0):=(blk_cell qg.out 0).trans rfl
           have qop:=blk_frozen qg.out 0
           have qem:=qa.out
           have qfv:=qi.out
           have qqj : jc.cell? ⟨qb,1,none⟩ = some (.int .i64 0):=(blk_cell qg.out 1).trans rfl
           have qoo:=blk_frozen qg.out 1
           have qel:=qa.out
           have qfu:=qi.out
           have qqi : jc.cell? ⟨qb,2,none⟩ = some (.int .i64 0):=(blk_cell qg.out 2).trans rfl
           have qon:=blk_frozen qg.out 2
           have qek:=qa.out
           have qft:=qi.out
           have qqh : jc.cell? ⟨qb,3,none⟩ = some (.int .i64 0):=(blk_cell qg.out 3).trans rfl
           have qom:=blk_frozen qg.out 3
           have qej:=qa.out
           have qfs:=qi.out
           have qqg : jc.cell? ⟨qb,4,none⟩ = some (.int .i64 0):=(blk_cell qg.out 4).trans rfl
           have qol:=blk_frozen qg.out 4
           have qei:=qa.out
           have qfr:=qi.out
           have qqf : jc.cell? ⟨qb,5,none⟩ = some (.int .i64 0):=(blk_cell qg.out 5).trans rfl
           have qok:=blk_frozen qg.out 5
           have qeh:=qa.out
           have qfq:=qi.out
           have qqe : jc.cell? ⟨qb,6,none⟩ = some (.int .i64 0):=(blk_cell qg.out 6).trans rfl
           have qoj:=blk_frozen qg.out 6
           have qeg:=qa.out
           have qfp:=qi.out
           refine skip_ (w1:=?_) (by rfl) rfl ?_ ?_
           rotate_left
           ·go_simp
            rfl
           refine hK.out _ _ ⟨((cell_far (p:=⟨qb,_,none⟩) qa.out _).trans (((cell_far (p:=⟨qb,_,none⟩) qa.out _).trans (((cell_far (p:=⟨qb,_,none⟩) qa.out _).trans (((cell_far (p:=⟨qb,_,none⟩) qa.out _).trans (((cell_far (p:=⟨qb,_,none⟩) qa.out _).trans (((cell_far (p:=⟨qb,_,none⟩) qa.out _).trans (((cell_far (p:=⟨qb,_,none⟩) qa.out _).trans (hHeld.1)))))))))))))),((cell_far (p:=⟨qb,_,none⟩) qa.out _).trans (((cell_far (p:=⟨qb,_,none⟩) qa.out _).trans (((cell_far (p:=⟨qb,_,none⟩) qa.out _).trans (((cell_far (p:=⟨qb,_,none⟩) qa.out _).trans (((cell_far (p:=⟨qb,_,none⟩) qa.out _).trans (((cell_far (p:=⟨qb,_,none⟩) qa.out _).trans (((cell_far (p:=⟨qb,_,none⟩) qa.out _).trans (hHeld.2.1)))))))))))))),((cell_far (p:=⟨qb,_,none⟩) qa.out _).trans (((cell_far (p:=⟨qb,_,none⟩) qa.out _).trans (((cell_far (p:=⟨qb,_,none⟩) qa.out _).trans (((cell_far (p:=⟨qb,_,none⟩) qa.out _).trans (((cell_far (p:=⟨qb,_,none⟩) qa.out _).trans (((cell_far (p:=⟨qb,_,none⟩) qa.out _).trans (((cell_far (p:=⟨qb,_,none⟩) qa.out _).trans (hHeld.2.2.1)))))))))))))),((cell_far (p:=⟨qb,_,none⟩) qa.out _).trans (((cell_far (p:=⟨qb,_,none⟩) qa.out _).trans (((cell_far (p:=⟨qb,_,none⟩) qa.out _).trans (((cell_far (p:=⟨qb,_,none⟩) qa.out _).trans (((cell_far (p:=⟨qb,_,none⟩) qa.out _).trans (((cell_far (p:=⟨qb,_,none⟩) qa.out _).trans (((cell_far (p:=⟨qb,_,none⟩) qa.out _).trans (hHeld.2.2.2.1)))))))))))))),((cell_far (p:=⟨qb,_,none⟩) qa.out _).trans (((cell_far (p:=⟨qb,_,none⟩) qa.out _).trans (((cell_far (p:=⟨qb,_,none⟩) qa.out _).trans (((cell_far (p:=⟨qb,_,none⟩) qa.out _).trans (((cell_far (p:=⟨qb,_,none⟩) qa.out _).trans (((cell_far (p:=⟨qb,_,none⟩) qa.out _).trans (((cell_far (p:=⟨qb,_,none⟩) qa.out _).trans (hHeld.2.2.2.2.1)))))))))))))),((cell_far (p:=⟨qb,_,none⟩) qa.out _).trans (((cell_far (p:=⟨qb,_,none⟩) qa.out _).trans (((cell_far (p:=⟨qb,_,none⟩) qa.out _).trans (((cell_far (p:=⟨qb,_,none⟩) qa.out _).trans (((cell_far (p:=⟨qb,_,none⟩) qa.out _).trans (((cell_far (p:=⟨qb,_,none⟩) qa.out _).trans (((cell_far (p:=⟨qb,_,none⟩) qa.out _).trans (hHeld.2.2.2.2.2.1)))))))))))))),((cell_far (p:=⟨qb,_,none⟩) qa.out _).trans (((cell_far (p:=⟨qb,_,none⟩) qa.out _).trans (((cell_far (p:=⟨qb,_,none⟩) qa.out _).trans (((cell_far (p:=⟨qb,_,none⟩) qa.out _).trans (((cell_far (p:=⟨qb,_,none⟩) qa.out _).trans (((cell_far (p:=⟨qb,_,none⟩) qa.out _).trans (((cell_far (p:=⟨qb,_,none⟩) qa.out _).trans (hHeld.2.2.2.2.2.2))))))))))))))⟩ (fun hHeld=>?_)
           clear hK K
           refine pure_ (i:=10) (N:=some 4) (v:=?_) (a':=?_) #[true,true,true,true,true,true,true,true,true,true,true] rfl rfl (any_of HT_.out (by kernel_rfl)) (fun _ _ _ h=>h) (Or.inl ⟨by rfl,?_⟩) ?_ ?_
           rotate_left
           ·intro w'
            go_simp
            with_reducible rfl
           rotate_left
           ·exact z47a
           refine done_ (done_of HT_.out (by kernel_rfl)) ?_
           try go_wp2
           refine bodyPost_ret (results_list (rs:=[.tmp 2,.cell 3 41,.tmp 4]) rfl (by simp) (.tmp (.cell qb 41 #[.int .i64 qu,.int .i64 3,.int .i64 (wrap64 (1 + qv)),.int .i64 wc,.int .i64 (wrap64 (1 + qz)),.int .i64 0,.int .i64 0] (0,0) _ rfl z47x1 Try.underlying41 rfl (by kernel_rfl) (.tmp .nil)))) rfl ?_
           exact ⟨_,by first|rfl|(simp [errW_none,errW_some] <;> rfl)|(simp only [← vr];first|rfl|(simp [errW_none,errW_some] <;> rfl))|(simp [*,errW_none,errW_some] <;> rfl),by (with_reducible repeat (first|apply Kd.R_alloc|apply Kd.R_drewN|apply Kd.R_drew));exact Kd.R_mono (Kd.R_far (p:=⟨qb,6,none⟩) (Kd.R_far (p:=⟨qb,5,none⟩) (Kd.R_far (p:=⟨qb,4,none⟩) (Kd.R_far (p:=⟨qb,3,none⟩) (Kd.R_far (p:=⟨qb,2,none⟩) (Kd.R_far (p:=⟨qb,1,none⟩) (Kd.R_far (p:=⟨qb,0,none⟩) (Kd.R_mono HO_7.out (fun k_ hk=>(⟨hk,hk.1⟩ : _ ∧ k_ ≠ qb))) (fun _ hk=>hk.2) (.int .i64 qu)) (fun _ hk=>hk.2) (.int .i64 3)) (fun _ hk=>hk.2) (.int .i64 (wrap64 (1 + qv)))) (fun _ hk=>hk.2) (.int .i64 wc)) (fun _ hk=>hk.2) (.int .i64 (wrap64 (1 + qz)))) (fun _ hk=>hk.2) (.int .i64 0)) (fun _ hk=>hk.2) (.int .i64 0)) (fun _ hk=>trivial),by repeat (first|(with_reducible first|exact HB.out|apply below_alloc|apply pw_below_drewN|apply below_drew1|refine below_set ?_ (IsS158.ge qc.out)|refine below_set ?_ qq.out|refine below_set ?_ we.out)|exact HB.out)⟩
       ·rw [if_neg uw] at H
        have qat : (wi == 3) = false:=beq_eq_false_iff_ne.mpr uw
        have qas : (wi != 3) = true:=bne_iff_ne.mpr uw
        by_cases jl : wi = 4
        rotate_left
        ·rw [if_neg jl] at H
         have qde : (wi == 4) = false:=beq_eq_false_iff_ne.mpr jl
         have qdd : (wi != 4) = true:=bne_iff_ne.mpr jl
         replace H:=Option.bind_eq_some_iff.mp H
         obtain ⟨⟨qdl,qmu⟩,qcr,H⟩:=H
         replace H : (some (qh,qu,3,wrap64 (1 + qv),wc,wrap64 (1 + qz),0,0,wrap64 (qo + (wrap64 ((wrap64 (Int.tdiv qdl 29)) * 100))))) = some (r1,r2,r3,r4,r5,r6,r7,r8,r9):=H
         have qpk:=Aside0.mk qcr
         clear qcr
         simp only [Option.some.injEq,Prod.mk.injEq] at H
         obtain ⟨rfl,rfl,rfl,rfl,rfl,rfl,rfl,rfl,rfl⟩:=H
         try go_wp2_with (first|((with_reducible refine gate_callee (f:=99) rfl ?_);refine goesL_ (some 45) rfl rfl Try.func99 (by kernel_rfl) rfl #[.pointer (some ⟨qm,0,none⟩)] rfl z47x19 ?_;(with_reducible refine (spec_l71Key.calls k1 qm qj wb qu vm w _ ?side1 ?side2 A42.out).mono ?_);(case side1=>repeat (first|(with_reducible first|exact qc.out|apply IsS158.alloc|apply IsS158.drewN|apply IsS158.drew|apply IsS158.set_1|refine IsS158.far ?_ qf.out _)|exact qc.out));(case side2=>repeat (first|(with_reducible first|exact HB.out|apply below_alloc|apply pw_below_drewN|apply below_drew1|refine below_set ?_ (IsS158.ge qc.out)|refine below_set ?_ qq.out)|exact HB.out));rintro e qsm ⟨rfl,hi,hb,hk⟩; refine ⟨_,rfl,?_⟩; have n0_:=Aside0.mk (Kd.R_mono (Kd.R_keep (IsS158.apart (show IsS158 w _ qm qj wb from by repeat (first|(with_reducible first|exact qc.out|apply IsS158.alloc|apply IsS158.drewN|apply IsS158.drew|apply IsS158.set_1|refine IsS158.far ?_ qf.out _)|exact qc.out)) z47x23 (by decide)) hk (fun _ h=>h.2)) (fun _ h=>h.1));have n1_:=Aside0.mk (KeepBut.blk hk (g':=qb) (o:=.cells #[.int .i64 0,.int .i64 0,.int .i64 0,.int .i64 0,.int .i64 0,.int .i64 0,.int .i64 0] 41 (0,0)) z47x21 ql.out (by simp));have n2_:=Aside0.mk (hb);have n3_:=Aside0.mk (hi);clear HO_7;clear qg;clear HB;clear qc;have HO_7:=n0_;have qg:=n1_;have HB:=n2_;have qc:=n3_;clear n0_ n1_ n2_ n3_;(try clear hb);(try clear hb2);(try clear hk);(try clear hi))|((with_reducible refine gate_callee (f:=70) rfl ?_);refine goesL_ (some 47) rfl rfl Try.func70 (by kernel_rfl) rfl #[.pointer (some ⟨qm,0,none⟩),.int .i64 3] rfl z47x19 ?_;(with_reducible refine (spec_l6Rd_pick.calls k1 qm qj vm 3 qv vl w _ ?side1 ?side2 A43.out).mono ?_);(case side1=>repeat (first|(with_reducible first|exact qc.out|apply IsS158.alloc|apply IsS158.drewN|apply IsS158.drew|apply IsS158.set_1|refine IsS158.far ?_ qf.out _)|exact qc.out));(case side2=>repeat (first|(with_reducible first|exact HB.out|apply below_alloc|apply pw_below_drewN|apply below_drew1|refine below_set ?_ (IsS158.ge qc.out)|refine below_set ?_ qq.out)|exact HB.out));rintro e qsl ⟨rfl,hi,hb,hk⟩; refine ⟨_,rfl,?_⟩; have n0_:=Aside0.mk (Kd.R_mono (Kd.R_keep (IsS158.apart (show IsS158 w _ qm qj vm from by repeat (first|(with_reducible first|exact qc.out|apply IsS158.alloc|apply IsS158.drewN|apply IsS158.drew|apply IsS158.set_1|refine IsS158.far ?_ qf.out _)|exact qc.out)) z47x23 (by decide)) hk (fun _ h=>h.2)) (fun _ h=>h.1));have n1_:=Aside0.mk (KeepBut.blk hk (g':=qb) (o:=.cells #[.int .i64 0,.int .i64 0,.int .i64 0,.int .i64 0,.int .i64 0,.int .i64 0,.int .i64 0] 41 (0,0)) z47x21 ql.out (by simp));have n2_:=Aside0.mk (hb);have n3_:=Aside0.mk (hi);clear HO_7;clear qg;clear HB;clear qc;have HO_7:=n0_;have qg:=n1_;have HB:=n2_;have qc:=n3_;clear n0_ n1_ n2_ n3_;(try clear hb);(try clear hb2);(try clear hk);(try clear hi))|((with_reducible refine gate_callee (f:=70) rfl ?_);refine goesL_ (some 51) rfl rfl Try.func70 (by kernel_rfl) rfl #[.pointer (some ⟨qm,0,none⟩),.int .i64 3] rfl z47x19 ?_;(with_reducible refine (spec_l6Rd_pick.calls k1 qm qj vl 3 ub wx w _ ?side1 ?side2 A44.out).mono ?_);(case side1=>repeat (first|(with_reducible first|exact qc.out|apply IsS158.alloc|apply IsS158.drewN|apply IsS158.drew|apply IsS158.set_1|refine IsS158.far ?_ qf.out _)|exact qc.out));(case side2=>repeat (first|(with_reducible first|exact HB.out|apply below_alloc|apply pw_below_drewN|apply below_drew1|refine below_set ?_ (IsS158.ge qc.out)|refine below_set ?_ qq.out)|exact HB.out));rintro e qsk ⟨rfl,hi,hb,hk⟩; refine ⟨_,rfl,?_⟩; have n0_:=Aside0.mk (Kd.R_mono (Kd.R_keep (IsS158.apart (show IsS158 w _ qm qj vl from by repeat (first|(with_reducible first|exact qc.out|apply IsS158.alloc|apply IsS158.drewN|apply IsS158.drew|apply IsS158.set_1|refine IsS158.far ?_ qf.out _)|exact qc.out)) z47x23 (by decide)) hk (fun _ h=>h.2)) (fun _ h=>h.1));have n1_:=Aside0.mk (KeepBut.blk hk (g':=qb) (o:=.cells #[.int .i64 0,.int .i64 0,.int .i64 0,.int .i64 0,.int .i64 0,.int .i64 0,.int .i64 0] 41 (0,0)) z47x21 ql.out (by simp));have n2_:=Aside0.mk (hb);have n3_:=Aside0.mk (hi);clear HO_7;clear qg;clear HB;clear qc;have HO_7:=n0_;have qg:=n1_;have HB:=n2_;have qc:=n3_;clear n0_ n1_ n2_ n3_;(try clear hb);(try clear hb2);(try clear hk);(try clear hi))|((with_reducible refine gate_callee (f:=70) rfl ?_);refine goesL_ (some 55) rfl rfl Try.func70 (by kernel_rfl) rfl #[.pointer (some ⟨qm,0,none⟩),.int .i64 9] rfl z47x19 ?_;(with_reducible refine (spec_l6Rd_pick.calls k1 qm qj wx 9 qz wv w _ ?side1 ?side2 A46.out).mono ?_);(case side1=>repeat (first|(with_reducible first|exact qc.out|apply IsS158.alloc|apply IsS158.drewN|apply IsS158.drew|apply IsS158.set_1|refine IsS158.far ?_ qf.out _)|exact qc.out));(case side2=>repeat (first|(with_reducible first|exact HB.out|apply below_alloc|apply pw_below_drewN|apply below_drew1|refine below_set ?_ (IsS158.ge qc.out)|refine below_set ?_ qq.out)|exact HB.out));rintro e qsj ⟨rfl,hi,hb,hk⟩; refine ⟨_,rfl,?_⟩; have n0_:=Aside0.mk (Kd.R_mono (Kd.R_keep (IsS158.apart (show IsS158 w _ qm qj wx from by repeat (first|(with_reducible first|exact qc.out|apply IsS158.alloc|apply IsS158.drewN|apply IsS158.drew|apply IsS158.set_1|refine IsS158.far ?_ qf.out _)|exact qc.out)) z47x23 (by decide)) hk (fun _ h=>h.2)) (fun _ h=>h.1));have n1_:=Aside0.mk (KeepBut.blk hk (g':=qb) (o:=.cells #[.int .i64 0,.int .i64 0,.int .i64 0,.int .i64 0,.int .i64 0,.int .i64 0,.int .i64 0] 41 (0,0)) z47x21 ql.out (by simp));have n2_:=Aside0.mk (hb);have n3_:=Aside0.mk (hi);clear HO_7;clear qg;clear HB;clear qc;have HO_7:=n0_;have qg:=n1_;have HB:=n2_;have qc:=n3_;clear n0_ n1_ n2_ n3_;(try clear hb);(try clear hb2);(try clear hk);(try clear hi))|((with_reducible refine gate_dst (N:=10) rfl ?_);refine box_event ?hg (N:=10) ?hd (cs:=#[.int .i64 0,.int .i64 0,.int .i64 0,.int .i64 0,.int .i64 0,.int .i64 0,.int .i64 0]) (t:=41) ?hr ?_;(case hd=>rfl);(case hg=>rfl);(case hr=>first|(go_simp;done)|(go_simp;rfl));intro qe hg uz hbox hb;have n0_:=Aside0.mk (Kd.R_below (Kd.R_elderB z47x23 qe (Nat.le_of_eq hg.symm)) hb);have n1_:=Aside0.mk (blk_below (g:=qb) (o:=.cells #[.int .i64 0,.int .i64 0,.int .i64 0,.int .i64 0,.int .i64 0,.int .i64 0,.int .i64 0] 41 (0,0)) z47x21 hb);have n2_:=Aside0.mk (IsS158.below z47x18 hb);have n3_:=Aside0.mk (below_step z47x17 hb);have n4_:=Aside0.mk (hbox);have n5_:=Aside0.mk ((z47x15 : w.heap.size ≤ qe));have n6_:=Aside0.mk ((z47x15 : w.heap.size ≤ qe));have n7_:=Aside0.mk ((z47x8 : qb ≠ qe));have n8_:=Aside0.mk ((z47x7 : qe ≠ qb));have n9_:=Aside0.mk ((z47x12 : qm ≠ qe));have n10_:=Aside0.mk ((z47x10 : qe ≠ qm));clear HO_7;clear qg;clear qc;clear HB;have HO_7:=n0_;have qg:=n1_;have qc:=n2_;have HB:=n3_;have qd:=n4_;have uo:=n5_;have we:=n6_;have qi:=n7_;have qa:=n8_;have qk:=n9_;have qt:=n10_;clear n0_ n1_ n2_ n3_ n4_ n5_ n6_ n7_ n8_ n9_ n10_;clear hb hbox hg;have qnm:=qa.out;have qnc:=qi.out;have qnl:=qt.out;have qnb:=qk.out;have qhe : uz.cell? ⟨qe,0,none⟩ = some (.int .i64 0):=(blk_cell qd.out 0).trans rfl;have qhd : uz.cell? ⟨qe,1,none⟩ = some (.int .i64 0):=(blk_cell qd.out 1).trans rfl;have qhc : uz.cell? ⟨qe,2,none⟩ = some (.int .i64 0):=(blk_cell qd.out 2).trans rfl;have qhb : uz.cell? ⟨qe,3,none⟩ = some (.int .i64 0):=(blk_cell qd.out 3).trans rfl;have qha : uz.cell? ⟨qe,4,none⟩ = some (.int .i64 0):=(blk_cell qd.out 4).trans rfl;have qgz : uz.cell? ⟨qe,5,none⟩ = some (.int .i64 0):=(blk_cell qd.out 5).trans rfl;have qgy : uz.cell? ⟨qe,6,none⟩ = some (.int .i64 0):=(blk_cell qd.out 6).trans rfl;have qgq:=blk_frozen qd.out 0;have qgp:=blk_frozen qd.out 1;have qgo:=blk_frozen qd.out 2;have qgn:=blk_frozen qd.out 3;have qgm:=blk_frozen qd.out 4;have qgl:=blk_frozen qd.out 5;have qgk:=blk_frozen qd.out 6)|((with_reducible refine gate_callee (f:=70) rfl ?_);refine goesL_ (some 59) rfl rfl Try.func70 (by kernel_rfl) rfl #[.pointer (some ⟨qm,0,none⟩),.int .i64 12] rfl z47x19 ?_;(with_reducible refine (spec_l6Rd_pick.calls k1 qm qj wv 12 wi wn w _ ?side1 ?side2 A47.out).mono ?_);(case side1=>repeat (first|(with_reducible first|exact qc.out|apply IsS158.alloc|apply IsS158.drewN|apply IsS158.drew|apply IsS158.set_1|refine IsS158.far ?_ qf.out _|refine IsS158.far ?_ qk.out _)|exact qc.out));(case side2=>repeat (first|(with_reducible first|exact HB.out|apply below_alloc|apply pw_below_drewN|apply below_drew1|refine below_set ?_ (IsS158.ge qc.out)|refine below_set ?_ qq.out|refine below_set ?_ we.out)|exact HB.out));rintro e qmp ⟨rfl,hi,hb,hk⟩; refine ⟨_,rfl,?_⟩; have n0_:=Aside0.mk (Kd.R_mono (Kd.R_keep (IsS158.apart (show IsS158 w _ qm qj wv from by repeat (first|(with_reducible first|exact qc.out|apply IsS158.alloc|apply IsS158.drewN|apply IsS158.drew|apply IsS158.set_1|refine IsS158.far ?_ qf.out _|refine IsS158.far ?_ qk.out _)|exact qc.out)) z47x6 (by decide)) hk (fun _ h=>h.2)) (fun _ h=>h.1));have n1_:=Aside0.mk (KeepBut.blk hk (g':=qb) (o:=.cells #[.int .i64 0,.int .i64 0,.int .i64 0,.int .i64 0,.int .i64 0,.int .i64 0,.int .i64 0] 41 (0,0)) z47x4 ql.out (by simp));have n2_:=Aside0.mk (KeepBut.blk hk (g':=qe) (o:=.cells #[.int .i64 qu,.int .i64 3,.int .i64 (wrap64 (1 + qv)),.int .i64 wc,.int .i64 (wrap64 (1 + qz)),.int .i64 0,.int .i64 0] 41 (0,0)) z47x2 qt.out (by simp));have n3_:=Aside0.mk (hb);have n4_:=Aside0.mk (hi);clear HO_7;clear qg;clear qd;clear HB;clear qc;have HO_7:=n0_;have qg:=n1_;have qd:=n2_;have HB:=n3_;have qc:=n4_;clear n0_ n1_ n2_ n3_ n4_;(try clear hb);(try clear hb2);(try clear hk);(try clear hi)))
         have n0_:=Aside0.mk (Kd.R_drew HO_7.out)
         have n1_:=Aside0.mk (blk_drew qg.out)
         have n2_:=Aside0.mk (blk_drew qd.out)
         have n3_:=Aside0.mk (IsS158.drew qc.out)
         have n4_:=Aside0.mk (below_drew1 HB.out)
         clear HO_7
         clear qg
         clear qd
         clear qc
         clear HB
         have HO_7:=n0_
         have qg:=n1_
         have qd:=n2_
         have qc:=n3_
         have HB:=n4_
         clear n0_ n1_ n2_ n3_ n4_
         refine start_ (n:=11) (S:=fun w' => w'.cell? ⟨qe,0,none⟩ = some (.int .i64 qu) ∧ w'.cell? ⟨qe,1,none⟩ = some (.int .i64 3) ∧ w'.cell? ⟨qe,2,none⟩ = some (.int .i64 (wrap64 (1 + qv))) ∧ w'.cell? ⟨qe,3,none⟩ = some (.int .i64 wc) ∧ w'.cell? ⟨qe,4,none⟩ = some (.int .i64 (wrap64 (1 + qz))) ∧ w'.cell? ⟨qe,5,none⟩ = some (.int .i64 0) ∧ w'.cell? ⟨qe,6,none⟩ = some (.int .i64 0)) (ds:=[]) #[false,false,false,false,false,false,false,false,false,false,false] (by kernel_rfl) rfl rfl ⟨(blk_cell qd.out 0).trans rfl,(blk_cell qd.out 1).trans rfl,(blk_cell qd.out 2).trans rfl,(blk_cell qd.out 3).trans rfl,(blk_cell qd.out 4).trans rfl,(blk_cell qd.out 5).trans rfl,(blk_cell qd.out 6).trans rfl⟩ (fun hHeld=>?_);refine with_tabW spec_DrawCacheWith.tab24 spec_DrawCacheWith.bits24 (fun HT_ HW_=>?_)
         generalize qmp.drew = qsi at HO_7 qg qd qc HB hHeld ⊢
         refine pure_ (i:=0) (N:=some 104) (v:=?_) (a':=?_) #[true,false,false,false,false,false,false,false,false,false,false] rfl rfl (any_of HT_.out (by kernel_rfl)) (fun _ _ _ h=>h) (Or.inl ⟨by rfl,?_⟩) ?_ ?_
         rotate_left
         ·intro w'
          go_simp
          with_reducible rfl
         rotate_left
         ·exact z47a
         refine pure_ (i:=2) (N:=some 106) (v:=?_) (a':=?_) #[true,false,true,false,false,false,false,false,false,false,false] rfl rfl (any_of HT_.out (by kernel_rfl)) (fun _ _ _ h=>h) (Or.inl ⟨by rfl,?_⟩) ?_ ?_
         rotate_left
         ·intro w'
          go_simp
          with_reducible rfl
         rotate_left
         ·exact z47a
         refine pure_ (i:=3) (N:=some 107) (v:=?_) (a':=?_) #[true,false,true,true,false,false,false,false,false,false,false] rfl rfl (any_of HT_.out (by kernel_rfl)) (fun _ _ _ h=>h) (Or.inl ⟨by rfl,?_⟩) ?_ ?_
         rotate_left
         ·intro w'
          go_simp
          with_reducible rfl
         rotate_left
         ·exact z47a
         refine take_ (i:=1) (N:=some 105) (v:=?_) (a':=?_) #[true,true,true,true,false,false,false,false,false,false,false] rfl rfl (take_ofW HT_.out HW_.out (by kernel_rfl)) (fun _ _ _ h=>h) (Or.inl ⟨by rfl,?_⟩) hHeld ?_ ?_
         rotate_left
         ·rintro w' ⟨s0,s1,s2,s3,s4,s5,s6⟩
          go_simp
          with_reducible rfl
         rotate_left
         ·exact z47a
         refine one_ (i:=4) (N:=some 108) #[true,true,true,true,true,false,false,false,false,false,false] rfl rfl (one_of HT_.out (by kernel_rfl)) (by decide) (fun K hK=>?_)
         refine goes_ Try.func70 (by kernel_rfl) rfl #[.pointer (some ⟨qm,0,none⟩),.int .i64 30] (by rfl) rfl rfl z47x19 ?_
         with_reducible refine (spec_l6Rd_pick.calls k1 qm qj wn 30 qdl qmu w _ ?side1 ?side2 qpk.out).mono ?_
         (case side1=>repeat (first|(with_reducible first|exact qc.out|apply IsS158.alloc|apply IsS158.drewN|apply IsS158.drew|apply IsS158.set_1|refine IsS158.far ?_ qf.out _|refine IsS158.far ?_ qk.out _)|exact qc.out))
         (case side2=>repeat (first|(with_reducible first|exact HB.out|apply below_alloc|apply pw_below_drewN|apply below_drew1|refine below_set ?_ (IsS158.ge qc.out)|refine below_set ?_ qq.out|refine below_set ?_ we.out)|exact HB.out))
         rintro e uy ⟨rfl,hi,hb,hk⟩
         refine ⟨_,rfl,?_⟩
         have n0_:=Aside0.mk (Kd.R_mono (Kd.R_keep (IsS158.apart (show IsS158 w _ qm qj wn from by repeat (first|(with_reducible first|exact qc.out|apply IsS158.alloc|apply IsS158.drewN|apply IsS158.drew|apply IsS158.set_1|refine IsS158.far ?_ qf.out _|refine IsS158.far ?_ qk.out _)|exact qc.out)) z47x23 (by decide)) hk (fun _ h=>h.2)) (fun _ h=>h.1))
         have n1_:=Aside0.mk (KeepBut.blk hk (g':=qb) (o:=.cells #[.int .i64 0,.int .i64 0,.int .i64 0,.int .i64 0,.int .i64 0,.int .i64 0,.int .i64 0] 41 (0,0)) z47x21 ql.out (by simp))
         have n2_:=Aside0.mk (KeepBut.blk hk (g':=qe) (o:=.cells #[.int .i64 qu,.int .i64 3,.int .i64 (wrap64 (1 + qv)),.int .i64 wc,.int .i64 (wrap64 (1 + qz)),.int .i64 0,.int .i64 0] 41 (0,0)) z47x22 qt.out (by simp))
         have n3_:=Aside0.mk (hb)
         have n4_:=Aside0.mk (hi)
         clear HO_7
         clear qg
         clear qd
         clear HB
         clear qc
         have HO_7:=n0_
         have qg:=n1_
         have qd:=n2_
         have HB:=n3_
         have qc:=n4_
         clear n0_ n1_ n2_ n3_ n4_
         (try clear hb)
         (try clear hb2)
         (try clear hk)
         (try clear hi)
         refine hK.out _ _ ⟨(blk_cell qd.out 0).trans rfl,(blk_cell qd.out 1).trans rfl,(blk_cell qd.out 2).trans rfl,(blk_cell qd.out 3).trans rfl,(blk_cell qd.out 4).trans rfl,(blk_cell qd.out 5).trans rfl,(blk_cell qd.out 6).trans rfl⟩ (fun hHeld=>?_)
         clear hK K
         refine norm_ (a':=?_) ?_ ?_
         rotate_left
         ·show Act.put _ (some 108) _ = _
          simp only [Act.put,List.setIfInBounds_toArray,List.set_cons_zero,List.set_cons_succ,i64_w,i32_w]
          rfl
         refine pure_ (i:=5) (N:=some 109) (v:=?_) (a':=?_) #[true,true,true,true,true,true,false,false,false,false,false] rfl rfl (any_of HT_.out (by kernel_rfl)) (fun _ _ _ h=>h) (Or.inl ⟨by rfl,?_⟩) ?_ ?_
         rotate_left
         ·intro w'
          go_simp
          with_reducible rfl
         rotate_left
         ·exact z47a
         refine pure_ (i:=6) (N:=some 110) (v:=?_) (a':=?_) #[true,true,true,true,true,true,true,false,false,false,false] rfl rfl (any_of HT_.out (by kernel_rfl)) (fun _ _ _ h=>h) (Or.inl ⟨by rfl,?_⟩) ?_ ?_
         rotate_left
         ·intro w'
          go_simp
          with_reducible rfl
         rotate_left
         ·exact z47a
         refine pure_ (i:=7) (N:=some 111) (v:=?_) (a':=?_) #[true,true,true,true,true,true,true,true,false,false,false] rfl rfl (any_of HT_.out (by kernel_rfl)) (fun _ _ _ h=>h) (Or.inl ⟨by rfl,?_⟩) ?_ ?_
         rotate_left
         ·intro w'
          go_simp
          with_reducible rfl
         rotate_left
         ·exact z47a
         refine pure_ (i:=8) (N:=some 2) (v:=?_) (a':=?_) #[true,true,true,true,true,true,true,true,true,false,false] rfl rfl (any_of HT_.out (by kernel_rfl)) (fun _ _ _ h=>h) (Or.inl ⟨by rfl,?_⟩) ?_ ?_
         rotate_left
         ·intro w'
          go_simp
          with_reducible rfl
         rotate_left
         ·exact z47a
         refine one_ (i:=9) (N:=none) #[true,true,true,true,true,true,true,true,true,true,false] rfl rfl (one_of HT_.out (by kernel_rfl)) (by decide) (fun K hK=>?_)
         have qpw : uy.cell? ⟨qb,0,none⟩ = some (.int .i64 0):=(blk_cell qg.out 0).trans rfl
         have qob:=blk_frozen qg.out 0
         have qdy:=qa.out
         have qfh:=qi.out
         have qpv : uy.cell? ⟨qb,1,none⟩ = some (.int .i64 0):=(blk_cell qg.out 1).trans rfl
         have qoa:=blk_frozen qg.out 1
         have qdx:=qa.out
         have qfg:=qi.out
         have qpu : uy.cell? ⟨qb,2,none⟩ = some (.int .i64 0):=(blk_cell qg.out 2).trans rfl
         have qnz:=blk_frozen qg.out 2
         have qdw:=qa.out
         have qff:=qi.out
         have qpt : uy.cell? ⟨qb,3,none⟩ = some (.int .i64 0):=(blk_cell qg.out 3).trans rfl
         have qny:=blk_frozen qg.out 3
         have qdv:=qa.out
         have qfe:=qi.out
         have qps : uy.cell? ⟨qb,4,none⟩ = some (.int .i64 0):=(blk_cell qg.out 4).trans rfl
         have qnx:=blk_frozen qg.out 4
         have qdu:=qa.out
         have qfd:=qi.out
         have qpr : uy.cell? ⟨qb,5,none⟩ = some (.int .i64 0):=(blk_cell qg.out 5).trans rfl
         have qnw:=blk_frozen qg.out 5
         have qdt:=qa.out
         have qfc:=qi.out
         have qpq : uy.cell? ⟨qb,6,none⟩ = some (.int .i64 0):=(blk_cell qg.out 6).trans rfl
         have qnv:=blk_frozen qg.out 6
         have qds:=qa.out
         have qfb:=qi.out
         refine skip_ (w1:=?_) (by rfl) rfl ?_ ?_
         rotate_left
         ·go_simp
          rfl
         refine hK.out _ _ ⟨((cell_far (p:=⟨qb,_,none⟩) qa.out _).trans (((cell_far (p:=⟨qb,_,none⟩) qa.out _).trans (((cell_far (p:=⟨qb,_,none⟩) qa.out _).trans (((cell_far (p:=⟨qb,_,none⟩) qa.out _).trans (((cell_far (p:=⟨qb,_,none⟩) qa.out _).trans (((cell_far (p:=⟨qb,_,none⟩) qa.out _).trans (((cell_far (p:=⟨qb,_,none⟩) qa.out _).trans (hHeld.1)))))))))))))),((cell_far (p:=⟨qb,_,none⟩) qa.out _).trans (((cell_far (p:=⟨qb,_,none⟩) qa.out _).trans (((cell_far (p:=⟨qb,_,none⟩) qa.out _).trans (((cell_far (p:=⟨qb,_,none⟩) qa.out _).trans (((cell_far (p:=⟨qb,_,none⟩) qa.out _).trans (((cell_far (p:=⟨qb,_,none⟩) qa.out _).trans (((cell_far (p:=⟨qb,_,none⟩) qa.out _).trans (hHeld.2.1)))))))))))))),((cell_far (p:=⟨qb,_,none⟩) qa.out _).trans (((cell_far (p:=⟨qb,_,none⟩) qa.out _).trans (((cell_far (p:=⟨qb,_,none⟩) qa.out _).trans (((cell_far (p:=⟨qb,_,none⟩) qa.out _).trans (((cell_far (p:=⟨qb,_,none⟩) qa.out _).trans (((cell_far (p:=⟨qb,_,none⟩) qa.out _).trans (((cell_far (p:=⟨qb,_,none⟩) qa.out _).trans (hHeld.2.2.1)))))))))))))),((cell_far (p:=⟨qb,_,none⟩) qa.out _).trans (((cell_far (p:=⟨qb,_,none⟩) qa.out _).trans (((cell_far (p:=⟨qb,_,none⟩) qa.out _).trans (((cell_far (p:=⟨qb,_,none⟩) qa.out _).trans (((cell_far (p:=⟨qb,_,none⟩) qa.out _).trans (((cell_far (p:=⟨qb,_,none⟩) qa.out _).trans (((cell_far (p:=⟨qb,_,none⟩) qa.out _).trans (hHeld.2.2.2.1)))))))))))))),((cell_far (p:=⟨qb,_,none⟩) qa.out _).trans (((cell_far (p:=⟨qb,_,none⟩) qa.out _).trans (((cell_far (p:=⟨qb,_,none⟩) qa.out _).trans (((cell_far (p:=⟨qb,_,none⟩) qa.out _).trans (((cell_far (p:=⟨qb,_,none⟩) qa.out _).trans (((cell_far (p:=⟨qb,_,none⟩) qa.out _).trans (((cell_far (p:=⟨qb,_,none⟩) qa.out _).trans (hHeld.2.2.2.2.1)))))))))))))),((cell_far (p:=⟨qb,_,none⟩) qa.out _).trans (((cell_far (p:=⟨qb,_,none⟩) qa.out _).trans (((cell_far (p:=⟨qb,_,none⟩) qa.out _).trans (((cell_far (p:=⟨qb,_,none⟩) qa.out _).trans (((cell_far (p:=⟨qb,_,none⟩) qa.out _).trans (((cell_far (p:=⟨qb,_,none⟩) qa.out _).trans (((cell_far (p:=⟨qb,_,none⟩) qa.out _).trans (hHeld.2.2.2.2.2.1)))))))))))))),((cell_far (p:=⟨qb,_,none⟩) qa.out _).trans (((cell_far (p:=⟨qb,_,none⟩) qa.out _).trans (((cell_far (p:=⟨qb,_,none⟩) qa.out _).trans (((cell_far (p:=⟨qb,_,none⟩) qa.out _).trans (((cell_far (p:=⟨qb,_,none⟩) qa.out _).trans (((cell_far (p:=⟨qb,_,none⟩) qa.out _).trans (((cell_far (p:=⟨qb,_,none⟩) qa.out _).trans (hHeld.2.2.2.2.2.2))))))))))))))⟩ (fun hHeld=>?_)
         clear hK K
         refine pure_ (i:=10) (N:=some 4) (v:=?_) (a':=?_) #[true,true,true,true,true,true,true,true,true,true,true] rfl rfl (any_of HT_.out (by kernel_rfl)) (fun _ _ _ h=>h) (Or.inl ⟨by rfl,?_⟩) ?_ ?_
         rotate_left
         ·intro w'
          go_simp
          with_reducible rfl
         rotate_left
         ·exact z47a
         refine done_ (done_of HT_.out (by kernel_rfl)) ?_
         try go_wp2
         refine bodyPost_ret (results_list (rs:=[.tmp 2,.cell 3 41,.tmp 4]) rfl (by simp) (.tmp (.cell qb 41 #[.int .i64 qu,.int .i64 3,.int .i64 (wrap64 (1 + qv)),.int .i64 wc,.int .i64 (wrap64 (1 + qz)),.int .i64 0,.int .i64 0] (0,0) _ rfl z47x1 Try.underlying41 rfl (by kernel_rfl) (.tmp .nil)))) rfl ?_
         exact ⟨_,by first|rfl|(simp [errW_none,errW_some] <;> rfl)|(simp only [← vr];first|rfl|(simp [errW_none,errW_some] <;> rfl))|(simp [*,errW_none,errW_some] <;> rfl),by (with_reducible repeat (first|apply Kd.R_alloc|apply Kd.R_drewN|apply Kd.R_drew));exact Kd.R_mono (Kd.R_far (p:=⟨qb,6,none⟩) (Kd.R_far (p:=⟨qb,5,none⟩) (Kd.R_far (p:=⟨qb,4,none⟩) (Kd.R_far (p:=⟨qb,3,none⟩) (Kd.R_far (p:=⟨qb,2,none⟩) (Kd.R_far (p:=⟨qb,1,none⟩) (Kd.R_far (p:=⟨qb,0,none⟩) (Kd.R_mono HO_7.out (fun k_ hk=>(⟨hk,hk.1⟩ : _ ∧ k_ ≠ qb))) (fun _ hk=>hk.2) (.int .i64 qu)) (fun _ hk=>hk.2) (.int .i64 3)) (fun _ hk=>hk.2) (.int .i64 (wrap64 (1 + qv)))) (fun _ hk=>hk.2) (.int .i64 wc)) (fun _ hk=>hk.2) (.int .i64 (wrap64 (1 + qz)))) (fun _ hk=>hk.2) (.int .i64 0)) (fun _ hk=>hk.2) (.int .i64 0)) (fun _ hk=>trivial),by repeat (first|(with_reducible first|exact HB.out|apply below_alloc|apply pw_below_drewN|apply below_drew1|refine below_set ?_ (IsS158.ge qc.out)|refine below_set ?_ qq.out|refine below_set ?_ we.out)|exact HB.out)⟩
        rw [if_pos jl] at H
        have qde : (wi == 4) = true:=beq_iff_eq.mpr jl
        have qdd : (wi != 4) = false:=bne_eq_false_iff_eq.mpr jl
        clear jl
        replace H:=Option.bind_eq_some_iff.mp H
        obtain ⟨⟨gb,ga,jz,jy,jx,jw,jv,gg⟩,qct,H⟩:=H
        replace H : (if qh.length < 2513169434916 then ((spec_l6Rd_pick.f k1 qj gg 30).bind fun wr=>(some ((qh ++ [(⟨gb,ga,jz,jy,jx,jw,jv⟩ : S41)]),qu,3,wrap64 (1 + qv),wc,wrap64 (1 + qz),0,0,wrap64 (qo + (wrap64 ((wrap64 (Int.tdiv wr.1 29)) * 100)))))) else (none)) = some (r1,r2,r3,r4,r5,r6,r7,r8,r9):=H
        have qpm:=Aside0.mk qct
        clear qct
        by_cases qck : qh.length < 2513169434916
        rotate_left
        ·rw [if_neg qck] at H
         exact absurd H (by simp)
        rw [if_pos qck] at H
        have qdg:=Aside0.mk qck
        clear qck
        obtain ⟨qdi,us⟩ : ∃ y_ : List (S41),y_ = (qh ++ [(⟨gb,ga,jz,jy,jx,jw,jv⟩ : S41)]):=⟨_,rfl⟩
        replace H : ((spec_l6Rd_pick.f k1 qj gg 30).bind fun wr=>(some (qdi,qu,3,wrap64 (1 + qv),wc,wrap64 (1 + qz),0,0,wrap64 (qo + (wrap64 ((wrap64 (Int.tdiv wr.1 29)) * 100)))))) = some (r1,r2,r3,r4,r5,r6,r7,r8,r9):=by first|(rw [us];with_reducible exact H)|(have H2_:=(Option.bind_some _ _).symm.trans H;rw [us];with_reducible exact H2_)|(have H2_:=(Option.bind_some _ _).symm.trans H;with_reducible exact H2_)|with_reducible exact H|(rw [us];exact H)|exact H
        have qhx:=Aside0.mk us
        clear us
        replace H:=Option.bind_eq_some_iff.mp H
        obtain ⟨⟨qdm,qmv⟩,qcs,H⟩:=H
        replace H : (some (qdi,qu,3,wrap64 (1 + qv),wc,wrap64 (1 + qz),0,0,wrap64 (qo + (wrap64 ((wrap64 (Int.tdiv qdm 29)) * 100))))) = some (r1,r2,r3,r4,r5,r6,r7,r8,r9):=H
        have qpl:=Aside0.mk qcs
        clear qcs
        simp only [Option.some.injEq,Prod.mk.injEq] at H
        obtain ⟨rfl,rfl,rfl,rfl,rfl,rfl,rfl,rfl,rfl⟩:=H
        try go_wp2_with (first|((with_reducible refine gate_callee (f:=99) rfl ?_);refine goesL_ (some 45) rfl rfl Try.func99 (by kernel_rfl) rfl #[.pointer (some ⟨qm,0,none⟩)] rfl z47x19 ?_;(with_reducible refine (spec_l71Key.calls k1 qm qj wb qu vm w _ ?side1 ?side2 A42.out).mono ?_);(case side1=>repeat (first|(with_reducible first|exact qc.out|apply IsS158.alloc|apply IsS158.drewN|apply IsS158.drew|apply IsS158.set_1|refine IsS158.far ?_ qf.out _)|exact qc.out));(case side2=>repeat (first|(with_reducible first|exact HB.out|apply below_alloc|apply pw_below_drewN|apply below_drew1|refine below_set ?_ (IsS158.ge qc.out)|refine below_set ?_ qq.out)|exact HB.out));rintro e qst ⟨rfl,hi,hb,hk⟩; refine ⟨_,rfl,?_⟩; have n0_:=Aside0.mk (Kd.R_mono (Kd.R_keep (IsS158.apart (show IsS158 w _ qm qj wb from by repeat (first|(with_reducible first|exact qc.out|apply IsS158.alloc|apply IsS158.drewN|apply IsS158.drew|apply IsS158.set_1|refine IsS158.far ?_ qf.out _)|exact qc.out)) z47x23 (by decide)) hk (fun _ h=>h.2)) (fun _ h=>h.1));have n1_:=Aside0.mk (KeepBut.blk hk (g':=qb) (o:=.cells #[.int .i64 0,.int .i64 0,.int .i64 0,.int .i64 0,.int .i64 0,.int .i64 0,.int .i64 0] 41 (0,0)) z47x21 ql.out (by simp));have n2_:=Aside0.mk (hb);have n3_:=Aside0.mk (hi);clear HO_7;clear qg;clear HB;clear qc;have HO_7:=n0_;have qg:=n1_;have HB:=n2_;have qc:=n3_;clear n0_ n1_ n2_ n3_;(try clear hb);(try clear hb2);(try clear hk);(try clear hi))|((with_reducible refine gate_callee (f:=70) rfl ?_);refine goesL_ (some 47) rfl rfl Try.func70 (by kernel_rfl) rfl #[.pointer (some ⟨qm,0,none⟩),.int .i64 3] rfl z47x19 ?_;(with_reducible refine (spec_l6Rd_pick.calls k1 qm qj vm 3 qv vl w _ ?side1 ?side2 A43.out).mono ?_);(case side1=>repeat (first|(with_reducible first|exact qc.out|apply IsS158.alloc|apply IsS158.drewN|apply IsS158.drew|apply IsS158.set_1|refine IsS158.far ?_ qf.out _)|exact qc.out));(case side2=>repeat (first|(with_reducible first|exact HB.out|apply below_alloc|apply pw_below_drewN|apply below_drew1|refine below_set ?_ (IsS158.ge qc.out)|refine below_set ?_ qq.out)|exact HB.out));rintro e qss ⟨rfl,hi,hb,hk⟩; refine ⟨_,rfl,?_⟩; have n0_:=Aside0.mk (Kd.R_mono (Kd.R_keep (IsS158.apart (show IsS158 w _ qm qj vm from by repeat (first|(with_reducible first|exact qc.out|apply IsS158.alloc|apply IsS158.drewN|apply IsS158.drew|apply IsS158.set_1|refine IsS158.far ?_ qf.out _)|exact qc.out)) z47x23 (by decide)) hk (fun _ h=>h.2)) (fun _ h=>h.1));have n1_:=Aside0.mk (KeepBut.blk hk (g':=qb) (o:=.cells #[.int .i64 0,.int .i64 0,.int .i64 0,.int .i64 0,.int .i64 0,.int .i64 0,.int .i64 0] 41 (0,0)) z47x21 ql.out (by simp));have n2_:=Aside0.mk (hb);have n3_:=Aside0.mk (hi);clear HO_7;clear qg;clear HB;clear qc;have HO_7:=n0_;have qg:=n1_;have HB:=n2_;have qc:=n3_;clear n0_ n1_ n2_ n3_;(try clear hb);(try clear hb2);(try clear hk);(try clear hi))|((with_reducible refine gate_callee (f:=70) rfl ?_);refine goesL_ (some 51) rfl rfl Try.func70 (by kernel_rfl) rfl #[.pointer (some ⟨qm,0,none⟩),.int .i64 3] rfl z47x19 ?_;(with_reducible refine (spec_l6Rd_pick.calls k1 qm qj vl 3 ub wx w _ ?side1 ?side2 A44.out).mono ?_);(case side1=>repeat (first|(with_reducible first|exact qc.out|apply IsS158.alloc|apply IsS158.drewN|apply IsS158.drew|apply IsS158.set_1|refine IsS158.far ?_ qf.out _)|exact qc.out));(case side2=>repeat (first|(with_reducible first|exact HB.out|apply below_alloc|apply pw_below_drewN|apply below_drew1|refine below_set ?_ (IsS158.ge qc.out)|refine below_set ?_ qq.out)|exact HB.out));rintro e qsr ⟨rfl,hi,hb,hk⟩; refine ⟨_,rfl,?_⟩; have n0_:=Aside0.mk (Kd.R_mono (Kd.R_keep (IsS158.apart (show IsS158 w _ qm qj vl from by repeat (first|(with_reducible first|exact qc.out|apply IsS158.alloc|apply IsS158.drewN|apply IsS158.drew|apply IsS158.set_1|refine IsS158.far ?_ qf.out _)|exact qc.out)) z47x23 (by decide)) hk (fun _ h=>h.2)) (fun _ h=>h.1));have n1_:=Aside0.mk (KeepBut.blk hk (g':=qb) (o:=.cells #[.int .i64 0,.int .i64 0,.int .i64 0,.int .i64 0,.int .i64 0,.int .i64 0,.int .i64 0] 41 (0,0)) z47x21 ql.out (by simp));have n2_:=Aside0.mk (hb);have n3_:=Aside0.mk (hi);clear HO_7;clear qg;clear HB;clear qc;have HO_7:=n0_;have qg:=n1_;have HB:=n2_;have qc:=n3_;clear n0_ n1_ n2_ n3_;(try clear hb);(try clear hb2);(try clear hk);(try clear hi))|((with_reducible refine gate_callee (f:=70) rfl ?_);refine goesL_ (some 55) rfl rfl Try.func70 (by kernel_rfl) rfl #[.pointer (some ⟨qm,0,none⟩),.int .i64 9] rfl z47x19 ?_;(with_reducible refine (spec_l6Rd_pick.calls k1 qm qj wx 9 qz wv w _ ?side1 ?side2 A46.out).mono ?_);(case side1=>repeat (first|(with_reducible first|exact qc.out|apply IsS158.alloc|apply IsS158.drewN|apply IsS158.drew|apply IsS158.set_1|refine IsS158.far ?_ qf.out _)|exact qc.out));(case side2=>repeat (first|(with_reducible first|exact HB.out|apply below_alloc|apply pw_below_drewN|apply below_drew1|refine below_set ?_ (IsS158.ge qc.out)|refine below_set ?_ qq.out)|exact HB.out));rintro e qsq ⟨rfl,hi,hb,hk⟩; refine ⟨_,rfl,?_⟩; have n0_:=Aside0.mk (Kd.R_mono (Kd.R_keep (IsS158.apart (show IsS158 w _ qm qj wx from by repeat (first|(with_reducible first|exact qc.out|apply IsS158.alloc|apply IsS158.drewN|apply IsS158.drew|apply IsS158.set_1|refine IsS158.far ?_ qf.out _)|exact qc.out)) z47x23 (by decide)) hk (fun _ h=>h.2)) (fun _ h=>h.1));have n1_:=Aside0.mk (KeepBut.blk hk (g':=qb) (o:=.cells #[.int .i64 0,.int .i64 0,.int .i64 0,.int .i64 0,.int .i64 0,.int .i64 0,.int .i64 0] 41 (0,0)) z47x21 ql.out (by simp));have n2_:=Aside0.mk (hb);have n3_:=Aside0.mk (hi);clear HO_7;clear qg;clear HB;clear qc;have HO_7:=n0_;have qg:=n1_;have HB:=n2_;have qc:=n3_;clear n0_ n1_ n2_ n3_;(try clear hb);(try clear hb2);(try clear hk);(try clear hi))|((with_reducible refine gate_dst (N:=10) rfl ?_);refine box_event ?hg (N:=10) ?hd (cs:=#[.int .i64 0,.int .i64 0,.int .i64 0,.int .i64 0,.int .i64 0,.int .i64 0,.int .i64 0]) (t:=41) ?hr ?_;(case hd=>rfl);(case hg=>rfl);(case hr=>first|(go_simp;done)|(go_simp;rfl));intro qe hg jb hbox hb;have n0_:=Aside0.mk (Kd.R_below (Kd.R_elderB z47x23 qe (Nat.le_of_eq hg.symm)) hb);have n1_:=Aside0.mk (blk_below (g:=qb) (o:=.cells #[.int .i64 0,.int .i64 0,.int .i64 0,.int .i64 0,.int .i64 0,.int .i64 0,.int .i64 0] 41 (0,0)) z47x21 hb);have n2_:=Aside0.mk (IsS158.below z47x18 hb);have n3_:=Aside0.mk (below_step z47x17 hb);have n4_:=Aside0.mk (hbox);have n5_:=Aside0.mk ((z47x15 : w.heap.size ≤ qe));have n6_:=Aside0.mk ((z47x15 : w.heap.size ≤ qe));have n7_:=Aside0.mk ((z47x8 : qb ≠ qe));have n8_:=Aside0.mk ((z47x7 : qe ≠ qb));have n9_:=Aside0.mk ((z47x12 : qm ≠ qe));have n10_:=Aside0.mk ((z47x10 : qe ≠ qm));clear HO_7;clear qg;clear qc;clear HB;have HO_7:=n0_;have qg:=n1_;have qc:=n2_;have HB:=n3_;have qd:=n4_;have uo:=n5_;have we:=n6_;have qi:=n7_;have qa:=n8_;have qk:=n9_;have qt:=n10_;clear n0_ n1_ n2_ n3_ n4_ n5_ n6_ n7_ n8_ n9_ n10_;clear hb hbox hg;have qno:=qa.out;have qne:=qi.out;have qnn:=qt.out;have qnd:=qk.out;have qhl : jb.cell? ⟨qe,0,none⟩ = some (.int .i64 0):=(blk_cell qd.out 0).trans rfl;have qhk : jb.cell? ⟨qe,1,none⟩ = some (.int .i64 0):=(blk_cell qd.out 1).trans rfl;have qhj : jb.cell? ⟨qe,2,none⟩ = some (.int .i64 0):=(blk_cell qd.out 2).trans rfl;have qhi : jb.cell? ⟨qe,3,none⟩ = some (.int .i64 0):=(blk_cell qd.out 3).trans rfl;have qhh : jb.cell? ⟨qe,4,none⟩ = some (.int .i64 0):=(blk_cell qd.out 4).trans rfl;have qhg : jb.cell? ⟨qe,5,none⟩ = some (.int .i64 0):=(blk_cell qd.out 5).trans rfl;have qhf : jb.cell? ⟨qe,6,none⟩ = some (.int .i64 0):=(blk_cell qd.out 6).trans rfl;have qgx:=blk_frozen qd.out 0;have qgw:=blk_frozen qd.out 1;have qgv:=blk_frozen qd.out 2;have qgu:=blk_frozen qd.out 3;have qgt:=blk_frozen qd.out 4;have qgs:=blk_frozen qd.out 5;have qgr:=blk_frozen qd.out 6)|((with_reducible refine gate_callee (f:=70) rfl ?_);refine goesL_ (some 59) rfl rfl Try.func70 (by kernel_rfl) rfl #[.pointer (some ⟨qm,0,none⟩),.int .i64 12] rfl z47x19 ?_;(with_reducible refine (spec_l6Rd_pick.calls k1 qm qj wv 12 wi wn w _ ?side1 ?side2 A47.out).mono ?_);(case side1=>repeat (first|(with_reducible first|exact qc.out|apply IsS158.alloc|apply IsS158.drewN|apply IsS158.drew|apply IsS158.set_1|refine IsS158.far ?_ qf.out _|refine IsS158.far ?_ qk.out _)|exact qc.out));(case side2=>repeat (first|(with_reducible first|exact HB.out|apply below_alloc|apply pw_below_drewN|apply below_drew1|refine below_set ?_ (IsS158.ge qc.out)|refine below_set ?_ qq.out|refine below_set ?_ we.out)|exact HB.out));rintro e qsp ⟨rfl,hi,hb,hk⟩; refine ⟨_,rfl,?_⟩; have n0_:=Aside0.mk (Kd.R_mono (Kd.R_keep (IsS158.apart (show IsS158 w _ qm qj wv from by repeat (first|(with_reducible first|exact qc.out|apply IsS158.alloc|apply IsS158.drewN|apply IsS158.drew|apply IsS158.set_1|refine IsS158.far ?_ qf.out _|refine IsS158.far ?_ qk.out _)|exact qc.out)) z47x6 (by decide)) hk (fun _ h=>h.2)) (fun _ h=>h.1));have n1_:=Aside0.mk (KeepBut.blk hk (g':=qb) (o:=.cells #[.int .i64 0,.int .i64 0,.int .i64 0,.int .i64 0,.int .i64 0,.int .i64 0,.int .i64 0] 41 (0,0)) z47x4 ql.out (by simp));have n2_:=Aside0.mk (KeepBut.blk hk (g':=qe) (o:=.cells #[.int .i64 qu,.int .i64 3,.int .i64 (wrap64 (1 + qv)),.int .i64 wc,.int .i64 (wrap64 (1 + qz)),.int .i64 0,.int .i64 0] 41 (0,0)) z47x2 qt.out (by simp));have n3_:=Aside0.mk (hb);have n4_:=Aside0.mk (hi);clear HO_7;clear qg;clear qd;clear HB;clear qc;have HO_7:=n0_;have qg:=n1_;have qd:=n2_;have HB:=n3_;have qc:=n4_;clear n0_ n1_ n2_ n3_ n4_;(try clear hb);(try clear hb2);(try clear hk);(try clear hi))|((with_reducible refine gate_callee (f:=85) rfl ?_);refine goesL_ (some 101) rfl rfl Try.func85 (by kernel_rfl) rfl #[.pointer (some ⟨qm,0,none⟩)] rfl z47x19 ?_;(with_reducible refine (spec_l71Seal.calls k1 qm qj wn gb ga jz jy jx jw jv gg w _ ?side1 ?side2 qpm.out).mono ?_);(case side1=>repeat (first|(with_reducible first|exact qc.out|apply IsS158.alloc|apply IsS158.drewN|apply IsS158.drew|apply IsS158.set_1|refine IsS158.far ?_ qf.out _|refine IsS158.far ?_ qk.out _)|exact qc.out));(case side2=>repeat (first|(with_reducible first|exact HB.out|apply below_alloc|apply pw_below_drewN|apply below_drew1|refine below_set ?_ (IsS158.ge qc.out)|refine below_set ?_ qq.out|refine below_set ?_ we.out)|exact HB.out));rintro e qso ⟨rfl,hi,hb,hk⟩; refine ⟨_,rfl,?_⟩; have n0_:=Aside0.mk (Kd.R_mono (Kd.R_keep (IsS158.apart (show IsS158 w _ qm qj wn from by repeat (first|(with_reducible first|exact qc.out|apply IsS158.alloc|apply IsS158.drewN|apply IsS158.drew|apply IsS158.set_1|refine IsS158.far ?_ qf.out _|refine IsS158.far ?_ qk.out _)|exact qc.out)) z47x23 (by decide)) hk (fun _ h=>h.2)) (fun _ h=>h.1));have n1_:=Aside0.mk (KeepBut.blk hk (g':=qb) (o:=.cells #[.int .i64 0,.int .i64 0,.int .i64 0,.int .i64 0,.int .i64 0,.int .i64 0,.int .i64 0] 41 (0,0)) z47x21 ql.out (by simp));have n2_:=Aside0.mk (KeepBut.blk hk (g':=qe) (o:=.cells #[.int .i64 qu,.int .i64 3,.int .i64 (wrap64 (1 + qv)),.int .i64 wc,.int .i64 (wrap64 (1 + qz)),.int .i64 0,.int .i64 0] 41 (0,0)) z47x22 qt.out (by simp));have n3_:=Aside0.mk (hb);have n4_:=Aside0.mk (hi);clear HO_7;clear qg;clear qd;clear HB;clear qc;have HO_7:=n0_;have qg:=n1_;have qd:=n2_;have HB:=n3_;have qc:=n4_;clear n0_ n1_ n2_ n3_ n4_;(try clear hb);(try clear hb2);(try clear hk);(try clear hi))|((with_reducible refine gate_builtin (b:=.append) (xs:=#[.tmp 99,.tmp 102]) rfl ?_);at_builtin;refine Kd.R_append k41 (w0:=w) w.heap.size rfl (.tmp 99) (.tmp 102) 32 41 (.agg #[(.int .i64 0),(.int .i64 0),(.int .i64 0),(.int .i64 0),(.int .i64 0),(.int .i64 0),(.int .i64 0)]) 56 rfl Try.underlying32 info41 rfl (by decide) (by omega) u7 qh (⟨gb,ga,jz,jy,jx,jw,jv⟩ : S41) [.int .i64 gb,.int .i64 ga,.int .i64 jz,.int .i64 jy,.int .i64 jx,.int .i64 jw,.int .i64 jv] (fun k_=>k_ ≠ qb ∧ k_ ≠ qe) (fun _=>False) rfl rfl ?aP (fun _ hk=>hk.elim) ?aF ?aO ?aB ?aS ?aL ?_;(case aP=>exact k41_mkM _ _ _ (⟨gb,ga,jz,jy,jx,jw,jv⟩ : S41));(case aB=>exact z47x14);(case aF=>exact (fun k_ hk=>⟨Kd.freshB (g:=qb) (o:=.cells #[.int .i64 0,.int .i64 0,.int .i64 0,.int .i64 0,.int .i64 0,.int .i64 0,.int .i64 0] 41 (0,0)) z47x21 k_ hk,Kd.freshB (g:=qe) (o:=.cells #[.int .i64 qu,.int .i64 3,.int .i64 (wrap64 (1 + qv)),.int .i64 wc,.int .i64 (wrap64 (1 + qz)),.int .i64 0,.int .i64 0] 41 (0,0)) z47x22 k_ hk⟩));(case aO=>exact z47x23);(case aS=>exact (below_size z47x14));(case aL=>have:=qdg.out;omega);intro qtm qmq ho hb hg hat;rw [← qhx.out] at ho;have n0_:=Aside0.mk (blk_grown (g:=qb) (o:=.cells #[.int .i64 0,.int .i64 0,.int .i64 0,.int .i64 0,.int .i64 0,.int .i64 0,.int .i64 0] 41 (0,0)) z47x21 hg (Kd.R_away HO_7.out (fun _ hk=>hk.1)));have n1_:=Aside0.mk (IsS158.grown z47x16 hg (IsS158.own_ne qc.out HO_7.out (by decide)));have n2_:=Aside0.mk (blk_grown (g:=qe) (o:=.cells #[.int .i64 qu,.int .i64 3,.int .i64 (wrap64 (1 + qv)),.int .i64 wc,.int .i64 (wrap64 (1 + qz)),.int .i64 0,.int .i64 0] 41 (0,0)) z47x22 hg (Kd.R_away HO_7.out (fun _ hk=>hk.2)));have n3_:=Aside0.mk (hb);have n4_:=Aside0.mk (ho);clear qg;clear qc;clear qd;clear HB;clear HO_7;have qg:=n0_;have qc:=n1_;have qd:=n2_;have HB:=n3_;have uk:=n4_;clear n0_ n1_ n2_ n3_ n4_;clear ho hb hg hat))
        have n0_:=Aside0.mk (Kd.R_drew uk.out)
        have n1_:=Aside0.mk (blk_drew qg.out)
        have n2_:=Aside0.mk (blk_drew qd.out)
        have n3_:=Aside0.mk (IsS158.drew qc.out)
        have n4_:=Aside0.mk (below_drew1 HB.out)
        clear uk
        clear qg
        clear qd
        clear qc
        clear HB
        have uk:=n0_
        have qg:=n1_
        have qd:=n2_
        have qc:=n3_
        have HB:=n4_
        clear n0_ n1_ n2_ n3_ n4_
        refine start_ (n:=11) (S:=fun w' => w'.cell? ⟨qe,0,none⟩ = some (.int .i64 qu) ∧ w'.cell? ⟨qe,1,none⟩ = some (.int .i64 3) ∧ w'.cell? ⟨qe,2,none⟩ = some (.int .i64 (wrap64 (1 + qv))) ∧ w'.cell? ⟨qe,3,none⟩ = some (.int .i64 wc) ∧ w'.cell? ⟨qe,4,none⟩ = some (.int .i64 (wrap64 (1 + qz))) ∧ w'.cell? ⟨qe,5,none⟩ = some (.int .i64 0) ∧ w'.cell? ⟨qe,6,none⟩ = some (.int .i64 0)) (ds:=[]) #[false,false,false,false,false,false,false,false,false,false,false] (by kernel_rfl) rfl rfl ⟨(blk_cell qd.out 0).trans rfl,(blk_cell qd.out 1).trans rfl,(blk_cell qd.out 2).trans rfl,(blk_cell qd.out 3).trans rfl,(blk_cell qd.out 4).trans rfl,(blk_cell qd.out 5).trans rfl,(blk_cell qd.out 6).trans rfl⟩ (fun hHeld=>?_);refine with_tabW spec_DrawCacheWith.tab24 spec_DrawCacheWith.bits24 (fun HT_ HW_=>?_)
        generalize qmq.drew = qsn at uk qg qd qc HB hHeld ⊢
        refine pure_ (i:=0) (N:=some 104) (v:=?_) (a':=?_) #[true,false,false,false,false,false,false,false,false,false,false] rfl rfl (any_of HT_.out (by kernel_rfl)) (fun _ _ _ h=>h) (Or.inl ⟨by rfl,?_⟩) ?_ ?_
        rotate_left
        ·intro w'
         go_simp
         with_reducible rfl
        rotate_left
        ·exact z47a
        refine pure_ (i:=2) (N:=some 106) (v:=?_) (a':=?_) #[true,false,true,false,false,false,false,false,false,false,false] rfl rfl (any_of HT_.out (by kernel_rfl)) (fun _ _ _ h=>h) (Or.inl ⟨by rfl,?_⟩) ?_ ?_
        rotate_left
        ·intro w'
         go_simp
         with_reducible rfl
        rotate_left
        ·exact z47a
        refine pure_ (i:=3) (N:=some 107) (v:=?_) (a':=?_) #[true,false,true,true,false,false,false,false,false,false,false] rfl rfl (any_of HT_.out (by kernel_rfl)) (fun _ _ _ h=>h) (Or.inl ⟨by rfl,?_⟩) ?_ ?_
        rotate_left
        ·intro w'
         go_simp
         with_reducible rfl
        rotate_left
        ·exact z47a
        refine take_ (i:=1) (N:=some 105) (v:=?_) (a':=?_) #[true,true,true,true,false,false,false,false,false,false,false] rfl rfl (take_ofW HT_.out HW_.out (by kernel_rfl)) (fun _ _ _ h=>h) (Or.inl ⟨by rfl,?_⟩) hHeld ?_ ?_
        rotate_left
        ·rintro w' ⟨s0,s1,s2,s3,s4,s5,s6⟩
         go_simp
         with_reducible rfl
        rotate_left
        ·exact z47a
        refine one_ (i:=4) (N:=some 108) #[true,true,true,true,true,false,false,false,false,false,false] rfl rfl (one_of HT_.out (by kernel_rfl)) (by decide) (fun K hK=>?_)
        refine goes_ Try.func70 (by kernel_rfl) rfl #[.pointer (some ⟨qm,0,none⟩),.int .i64 30] (by rfl) rfl rfl z47x19 ?_
        with_reducible refine (spec_l6Rd_pick.calls k1 qm qj gg 30 qdm qmv w _ ?side1 ?side2 qpl.out).mono ?_
        (case side1=>repeat (first|(with_reducible first|exact qc.out|apply IsS158.alloc|apply IsS158.drewN|apply IsS158.drew|apply IsS158.set_1|refine IsS158.far ?_ qf.out _|refine IsS158.far ?_ qk.out _)|exact qc.out))
        (case side2=>repeat (first|(with_reducible first|exact HB.out|apply below_alloc|apply pw_below_drewN|apply below_drew1|refine below_set ?_ (IsS158.ge qc.out)|refine below_set ?_ qq.out|refine below_set ?_ we.out)|exact HB.out))
        rintro e ja ⟨rfl,hi,hb,hk⟩
        refine ⟨_,rfl,?_⟩
        have n0_:=Aside0.mk (KeepBut.blk hk (g':=qb) (o:=.cells #[.int .i64 0,.int .i64 0,.int .i64 0,.int .i64 0,.int .i64 0,.int .i64 0,.int .i64 0] 41 (0,0)) z47x21 ql.out (by simp))
        have n1_:=Aside0.mk (KeepBut.blk hk (g':=qe) (o:=.cells #[.int .i64 qu,.int .i64 3,.int .i64 (wrap64 (1 + qv)),.int .i64 wc,.int .i64 (wrap64 (1 + qz)),.int .i64 0,.int .i64 0] 41 (0,0)) z47x22 qt.out (by simp))
        have n2_:=Aside0.mk (Kd.R_mono (Kd.R_keep (IsS158.apart (show IsS158 w _ qm qj gg from by repeat (first|(with_reducible first|exact qc.out|apply IsS158.alloc|apply IsS158.drewN|apply IsS158.drew|apply IsS158.set_1|refine IsS158.far ?_ qf.out _|refine IsS158.far ?_ qk.out _)|exact qc.out)) (by (with_reducible repeat (first|apply Kd.R_alloc|apply Kd.R_drewN|apply Kd.R_drew));exact uk.out) (by decide)) hk (fun _ h=>h.2)) (fun _ h=>h.1))
        have n3_:=Aside0.mk (hb)
        have n4_:=Aside0.mk (hi)
        clear qg
        clear qd
        clear uk
        clear HB
        clear qc
        have qg:=n0_
        have qd:=n1_
        have uk:=n2_
        have HB:=n3_
        have qc:=n4_
        clear n0_ n1_ n2_ n3_ n4_
        (try clear hb)
        (try clear hb2)
        (try clear hk)
        (try clear hi)
        refine hK.out _ _ ⟨(blk_cell qd.out 0).trans rfl,(blk_cell qd.out 1).trans rfl,(blk_cell qd.out 2).trans rfl,(blk_cell qd.out 3).trans rfl,(blk_cell qd.out 4).trans rfl,(blk_cell qd.out 5).trans rfl,(blk_cell qd.out 6).trans rfl⟩ (fun hHeld=>?_)
        clear hK K
        refine norm_ (a':=?_) ?_ ?_
        rotate_left
        ·show Act.put _ (some 108) _ = _
         simp only [Act.put,List.setIfInBounds_toArray,List.set_cons_zero,List.set_cons_succ,i64_w,i32_w]
         rfl
        refine pure_ (i:=5) (N:=some 109) (v:=?_) (a':=?_) #[true,true,true,true,true,true,false,false,false,false,false] rfl rfl (any_of HT_.out (by kernel_rfl)) (fun _ _ _ h=>h) (Or.inl ⟨by rfl,?_⟩) ?_ ?_
        rotate_left
        ·intro w'
         go_simp
         with_reducible rfl
        rotate_left
        ·exact z47a
        refine pure_ (i:=6) (N:=some 110) (v:=?_) (a':=?_) #[true,true,true,true,true,true,true,false,false,false,false] rfl rfl (any_of HT_.out (by kernel_rfl)) (fun _ _ _ h=>h) (Or.inl ⟨by rfl,?_⟩) ?_ ?_
        rotate_left
        ·intro w'
         go_simp
         with_reducible rfl
        rotate_left
        ·exact z47a
        refine pure_ (i:=7) (N:=some 111) (v:=?_) (a':=?_) #[true,true,true,true,true,true,true,true,false,false,false] rfl rfl (any_of HT_.out (by kernel_rfl)) (fun _ _ _ h=>h) (Or.inl ⟨by rfl,?_⟩) ?_ ?_
        rotate_left
        ·intro w'
         go_simp
         with_reducible rfl
        rotate_left
        ·exact z47a
        refine pure_ (i:=8) (N:=some 2) (v:=?_) (a':=?_) #[true,true,true,true,true,true,true,true,true,false,false] rfl rfl (any_of HT_.out (by kernel_rfl)) (fun _ _ _ h=>h) (Or.inl ⟨by rfl,?_⟩) ?_ ?_
        rotate_left
        ·intro w'
         go_simp
         with_reducible rfl
        rotate_left
        ·exact z47a
        refine one_ (i:=9) (N:=none) #[true,true,true,true,true,true,true,true,true,true,false] rfl rfl (one_of HT_.out (by kernel_rfl)) (by decide) (fun K hK=>?_)
        have qqd : ja.cell? ⟨qb,0,none⟩ = some (.int .i64 0):=(blk_cell qg.out 0).trans rfl
        have qoi:=blk_frozen qg.out 0
        have qef:=qa.out
        have qfo:=qi.out
        have qqc : ja.cell? ⟨qb,1,none⟩ = some (.int .i64 0):=(blk_cell qg.out 1).trans rfl
        have qoh:=blk_frozen qg.out 1
        have qee:=qa.out
        have qfn:=qi.out
        have qqb : ja.cell? ⟨qb,2,none⟩ = some (.int .i64 0):=(blk_cell qg.out 2).trans rfl
        have qog:=blk_frozen qg.out 2
        have qed:=qa.out
        have qfm:=qi.out
        have qqa : ja.cell? ⟨qb,3,none⟩ = some (.int .i64 0):=(blk_cell qg.out 3).trans rfl
        have qof:=blk_frozen qg.out 3
        have qec:=qa.out
        have qfl:=qi.out
        have qpz : ja.cell? ⟨qb,4,none⟩ = some (.int .i64 0):=(blk_cell qg.out 4).trans rfl
        have qoe:=blk_frozen qg.out 4
        have qeb:=qa.out
        have qfk:=qi.out
        have qpy : ja.cell? ⟨qb,5,none⟩ = some (.int .i64 0):=(blk_cell qg.out 5).trans rfl
        have qod:=blk_frozen qg.out 5
        have qea:=qa.out
        have qfj:=qi.out
        have qpx : ja.cell? ⟨qb,6,none⟩ = some (.int .i64 0):=(blk_cell qg.out 6).trans rfl
        have qoc:=blk_frozen qg.out 6
        have qdz:=qa.out
        have qfi:=qi.out
        refine skip_ (w1:=?_) (by rfl) rfl ?_ ?_
        rotate_left
        ·go_simp
         rfl
        refine hK.out _ _ ⟨((cell_far (p:=⟨qb,_,none⟩) qa.out _).trans (((cell_far (p:=⟨qb,_,none⟩) qa.out _).trans (((cell_far (p:=⟨qb,_,none⟩) qa.out _).trans (((cell_far (p:=⟨qb,_,none⟩) qa.out _).trans (((cell_far (p:=⟨qb,_,none⟩) qa.out _).trans (((cell_far (p:=⟨qb,_,none⟩) qa.out _).trans (((cell_far (p:=⟨qb,_,none⟩) qa.out _).trans (hHeld.1)))))))))))))),((cell_far (p:=⟨qb,_,none⟩) qa.out _).trans (((cell_far (p:=⟨qb,_,none⟩) qa.out _).trans (((cell_far (p:=⟨qb,_,none⟩) qa.out _).trans (((cell_far (p:=⟨qb,_,none⟩) qa.out _).trans (((cell_far (p:=⟨qb,_,none⟩) qa.out _).trans (((cell_far (p:=⟨qb,_,none⟩) qa.out _).trans (((cell_far (p:=⟨qb,_,none⟩) qa.out _).trans (hHeld.2.1)))))))))))))),((cell_far (p:=⟨qb,_,none⟩) qa.out _).trans (((cell_far (p:=⟨qb,_,none⟩) qa.out _).trans (((cell_far (p:=⟨qb,_,none⟩) qa.out _).trans (((cell_far (p:=⟨qb,_,none⟩) qa.out _).trans (((cell_far (p:=⟨qb,_,none⟩) qa.out _).trans (((cell_far (p:=⟨qb,_,none⟩) qa.out _).trans (((cell_far (p:=⟨qb,_,none⟩) qa.out _).trans (hHeld.2.2.1)))))))))))))),((cell_far (p:=⟨qb,_,none⟩) qa.out _).trans (((cell_far (p:=⟨qb,_,none⟩) qa.out _).trans (((cell_far (p:=⟨qb,_,none⟩) qa.out _).trans (((cell_far (p:=⟨qb,_,none⟩) qa.out _).trans (((cell_far (p:=⟨qb,_,none⟩) qa.out _).trans (((cell_far (p:=⟨qb,_,none⟩) qa.out _).trans (((cell_far (p:=⟨qb,_,none⟩) qa.out _).trans (hHeld.2.2.2.1)))))))))))))),((cell_far (p:=⟨qb,_,none⟩) qa.out _).trans (((cell_far (p:=⟨qb,_,none⟩) qa.out _).trans (((cell_far (p:=⟨qb,_,none⟩) qa.out _).trans (((cell_far (p:=⟨qb,_,none⟩) qa.out _).trans (((cell_far (p:=⟨qb,_,none⟩) qa.out _).trans (((cell_far (p:=⟨qb,_,none⟩) qa.out _).trans (((cell_far (p:=⟨qb,_,none⟩) qa.out _).trans (hHeld.2.2.2.2.1)))))))))))))),((cell_far (p:=⟨qb,_,none⟩) qa.out _).trans (((cell_far (p:=⟨qb,_,none⟩) qa.out _).trans (((cell_far (p:=⟨qb,_,none⟩) qa.out _).trans (((cell_far (p:=⟨qb,_,none⟩) qa.out _).trans (((cell_far (p:=⟨qb,_,none⟩) qa.out _).trans (((cell_far (p:=⟨qb,_,none⟩) qa.out _).trans (((cell_far (p:=⟨qb,_,none⟩) qa.out _).trans (hHeld.2.2.2.2.2.1)))))))))))))),((cell_far (p:=⟨qb,_,none⟩) qa.out _).trans (((cell_far (p:=⟨qb,_,none⟩) qa.out _).trans (((cell_far (p:=⟨qb,_,none⟩) qa.out _).trans (((cell_far (p:=⟨qb,_,none⟩) qa.out _).trans (((cell_far (p:=⟨qb,_,none⟩) qa.out _).trans (((cell_far (p:=⟨qb,_,none⟩) qa.out _).trans (((cell_far (p:=⟨qb,_,none⟩) qa.out _).trans (hHeld.2.2.2.2.2.2))))))))))))))⟩ (fun hHeld=>?_)
        clear hK K
        refine pure_ (i:=10) (N:=some 4) (v:=?_) (a':=?_) #[true,true,true,true,true,true,true,true,true,true,true] rfl rfl (any_of HT_.out (by kernel_rfl)) (fun _ _ _ h=>h) (Or.inl ⟨by rfl,?_⟩) ?_ ?_
        rotate_left
        ·intro w'
         go_simp
         with_reducible rfl
        rotate_left
        ·exact z47a
        refine done_ (done_of HT_.out (by kernel_rfl)) ?_
        try go_wp2
        refine bodyPost_ret (results_list (rs:=[.tmp 2,.cell 3 41,.tmp 4]) rfl (by simp) (.tmp (.cell qb 41 #[.int .i64 qu,.int .i64 3,.int .i64 (wrap64 (1 + qv)),.int .i64 wc,.int .i64 (wrap64 (1 + qz)),.int .i64 0,.int .i64 0] (0,0) _ rfl z47x1 Try.underlying41 rfl (by kernel_rfl) (.tmp .nil)))) rfl ?_
        exact ⟨_,by first|rfl|(simp [errW_none,errW_some] <;> rfl)|(simp only [← vr];first|rfl|(simp [errW_none,errW_some] <;> rfl))|(simp [*,errW_none,errW_some] <;> rfl),by (with_reducible repeat (first|apply Kd.R_alloc|apply Kd.R_drewN|apply Kd.R_drew));exact Kd.R_mono (Kd.R_far (p:=⟨qb,6,none⟩) (Kd.R_far (p:=⟨qb,5,none⟩) (Kd.R_far (p:=⟨qb,4,none⟩) (Kd.R_far (p:=⟨qb,3,none⟩) (Kd.R_far (p:=⟨qb,2,none⟩) (Kd.R_far (p:=⟨qb,1,none⟩) (Kd.R_far (p:=⟨qb,0,none⟩) (Kd.R_mono uk.out (fun k_ hk=>(⟨hk,hk.1⟩ : _ ∧ k_ ≠ qb))) (fun _ hk=>hk.2) (.int .i64 qu)) (fun _ hk=>hk.2) (.int .i64 3)) (fun _ hk=>hk.2) (.int .i64 (wrap64 (1 + qv)))) (fun _ hk=>hk.2) (.int .i64 wc)) (fun _ hk=>hk.2) (.int .i64 (wrap64 (1 + qz)))) (fun _ hk=>hk.2) (.int .i64 0)) (fun _ hk=>hk.2) (.int .i64 0)) (fun _ hk=>trivial),by repeat (first|(with_reducible first|exact HB.out|apply below_alloc|apply pw_below_drewN|apply below_drew1|refine below_set ?_ (IsS158.ge qc.out)|refine below_set ?_ qq.out|refine below_set ?_ we.out)|exact HB.out)⟩

end Go.Proofs.Ytgekmdfcbcacdaa.Hp
