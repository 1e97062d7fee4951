-- hp.py
import Derived.Test.YtgekmdfcbcacdaaHx0
import Derived.Test.YtgekmdfcbcacdaaHx47
import Derived.Test.YtgekmdfcbcacdaaHx51
import Derived.Test.YtgekmdfcbcacdaaHx58
import Derived.Test.YtgekmdfcbcacdaaHx59
namespace Go.Proofs.Ytgekmdfcbcacdaa.Hp
open Go.RowKit Go.Proofs.YtgekmdfcbcacdaaW.PrintWords Go.Proofs.YtgekmdfcbcacdaaW.PrintLast Go.Proofs.YtgekmdfcbcacdaaW.PrintMore
attribute [local go_sem] max2_int min2_int max_two min_two max_three min_three max_four min_four   -- for this text's walks alone
set_option linter.unusedVariables false
set_option linter.unusedSimpArgs false
-- squeezed by wip/tools/squeeze.py
section
variable {P : Program} {ops : Array Oper} {Q : Exit → Act → World → Prop} {a : Act} {W : World} {rest : List Oper} {o : Oper}
theorem ungate (hw : Region.wanted o (yielded ops a.tmps) = true) (h : wpList P ops Q ({ o with guard := none } :: rest) a W) : wpList P ops Q (o :: rest) a W := by
  simp only [wpList] at h ⊢
  rw [if_pos hw]
  rw [if_pos (by simp [Region.wanted])] at h
  exact h
end
theorem V_stepX {α : Type} {d : Kd α} {e base : Nat} {W W1 : World} {ok : Nat → Prop} {v : Value} {xs : List α} (h : Kd.V d e W base ok v xs) (hm : ∀ k, ok k → k < W.heap.size → W1.heap[k]? = W.heap[k]?) : Kd.V d e W1 base ok v xs := Kd.V_map h (fun _ hf => Kd.F_step hf hm)
def setSeal (w : World) (g : Nat) (a b c d e f h : Int) : World := ((((((w.setCell ⟨g, 0, none⟩ (.int .i64 a)).setCell ⟨g, 1, none⟩ (.int .i64 b)).setCell ⟨g, 2, none⟩ (.int .i64 c)).setCell ⟨g, 3, none⟩ (.int .i64 d)).setCell ⟨g, 4, none⟩ (.int .i64 e)).setCell ⟨g, 5, none⟩ (.int .i64 f)).setCell ⟨g, 6, none⟩ (.int .i64 h)
theorem setSeal_far {w : World} {k g : Nat} {a b c d e f h : Int} (n : k ≠ g) : (setSeal w g a b c d e f h).heap[k]? = w.heap[k]? := by
  unfold setSeal
  exact (Below.heap_setCell _ _ _ _ n).trans ((Below.heap_setCell _ _ _ _ n).trans ((Below.heap_setCell _ _ _ _ n).trans ((Below.heap_setCell _ _ _ _ n).trans ((Below.heap_setCell _ _ _ _ n).trans ((Below.heap_setCell _ _ _ _ n).trans (Below.heap_setCell _ _ _ _ n))))))
theorem setSeal_below {w W : World} {g : Nat} {a b c d e f h : Int} (k : Below w.heap.size w W) (n : w.heap.size ≤ g) : Below w.heap.size w (setSeal W g a b c d e f h) := by
  unfold setSeal
  exact below_set (below_set (below_set (below_set (below_set (below_set (below_set k n) n) n) n) n) n) n
theorem setSeal_blk {w : World} {g t : Nat} {x0 x1 x2 x3 x4 x5 x6 : Value} {a b c d e f h : Int} (k : w.heap[g]? = some (.cells #[x0, x1, x2, x3, x4, x5, x6] t (0, 0))) : (setSeal w g a b c d e f h).heap[g]? = some (.cells #[.int .i64 a, .int .i64 b, .int .i64 c, .int .i64 d, .int .i64 e, .int .i64 f, .int .i64 h] t (0, 0)) := by
  unfold setSeal
  refine blk_put (cs := #[.int .i64 a, .int .i64 b, .int .i64 c, .int .i64 d, .int .i64 e, .int .i64 f, x6]) ?_ 6 _ rfl
  refine blk_put (cs := #[.int .i64 a, .int .i64 b, .int .i64 c, .int .i64 d, .int .i64 e, x5, x6]) ?_ 5 _ rfl
  refine blk_put (cs := #[.int .i64 a, .int .i64 b, .int .i64 c, .int .i64 d, x4, x5, x6]) ?_ 4 _ rfl
  refine blk_put (cs := #[.int .i64 a, .int .i64 b, .int .i64 c, x3, x4, x5, x6]) ?_ 3 _ rfl
  refine blk_put (cs := #[.int .i64 a, .int .i64 b, x2, x3, x4, x5, x6]) ?_ 2 _ rfl
  refine blk_put (cs := #[.int .i64 a, x1, x2, x3, x4, x5, x6]) ?_ 1 _ rfl
  exact blk_put k 0 _ rfl
theorem z61x16 {P : Prop} (h : P:=by (with_reducible repeat (first|apply Kd.V_alloc|apply Kd.V_drewN|apply Kd.V_drew));exact HO_8.out) : P:=h
theorem z61x15 {P : Prop} (h : P:=by (with_reducible repeat (first|apply Kd.R_alloc|apply Kd.R_drewN|apply Kd.R_drew));exact HO_6.out) : P:=h
theorem z61x14 {P : Prop} (h : P:=by (with_reducible repeat (first|apply Kd.R_alloc|apply Kd.R_drewN|apply Kd.R_drew));exact qx.out) : P:=h
theorem z61x13 {P : Prop} (h : P:=by (with_reducible repeat (first|refine blk_drewN ?_ _|refine blk_drew ?_|refine blk_alloc ?_ _));exact qb.out) : P:=h
theorem z61x12 {P : Prop} (h : P:=by repeat (first|(with_reducible first|exact HB.out|apply below_alloc|apply pw_below_drewN|apply below_drew1)|exact HB.out)) : P:=h
theorem z61x11 {P : Prop} (h : P:=by (try simp only [List.map_toArray,List.map_cons,List.map_nil]);first|done|rfl|(simp only [List.length_drop,List.length_take];rfl)) : P:=h
theorem z61x10 {P : Prop} (h : P:=by repeat (first|(with_reducible first|exact HB.out|apply below_alloc|apply pw_below_drewN|apply below_drew1|refine below_set ?_ qy.out)|exact HB.out)) : P:=h
theorem z61x9 {P : Prop} (h : P:=by rw [hg];exact (below_size (by repeat (first|(with_reducible first|exact HB.out|apply below_alloc|apply pw_below_drewN|apply below_drew1|refine below_set ?_ qy.out)|exact HB.out)))) : P:=h
theorem z61x8 {P : Prop} (h : P:=by repeat (first|(with_reducible first|exact HB.out|apply below_alloc|apply pw_below_drewN|apply below_drew1|refine below_set ?_ qy.out|refine below_set ?_ ws.out)|exact HB.out)) : P:=h
theorem z61x7 {P : Prop} (h : P:=by rw [hg];exact Nat.ne_of_lt (blk_lt (g:=qc) (o:=.cells #[.int .i64 qf,.int .i64 qg,.int .i64 qh,.int .i64 qn,.int .i64 qj,.int .i64 qk,.int .i64 ql] 41 (0,0)) (by (with_reducible repeat (first|refine blk_drewN ?_ _|refine blk_drew ?_|refine blk_alloc ?_ _));exact qb.out))) : P:=h
theorem z61x6 {P : Prop} (h : P:=by rw [hg];exact Nat.ne_of_gt (blk_lt (g:=qc) (o:=.cells #[.int .i64 qf,.int .i64 qg,.int .i64 qh,.int .i64 qn,.int .i64 qj,.int .i64 qk,.int .i64 ql] 41 (0,0)) (by (with_reducible repeat (first|refine blk_drewN ?_ _|refine blk_drew ?_|refine blk_alloc ?_ _));exact qb.out))) : P:=h
theorem z61x5 {P : Prop} (h : P:=by (with_reducible repeat (first|apply Kd.R_alloc|apply Kd.R_drewN|apply Kd.R_drew));exact (Kd.R_mono (Kd.R_far (p:=⟨qc,6,none⟩) (Kd.R_far (p:=⟨qc,5,none⟩) (Kd.R_far (p:=⟨qc,4,none⟩) (Kd.R_far (p:=⟨qc,3,none⟩) (Kd.R_far (p:=⟨qc,2,none⟩) (Kd.R_far (p:=⟨qc,1,none⟩) (Kd.R_far (p:=⟨qc,0,none⟩) (Kd.R_mono qx.out (fun k_ hk=>(⟨hk,hk.2⟩ : _ ∧ k_ ≠ qc))) (fun _ hk=>hk.2) (.int .i64 qf)) (fun _ hk=>hk.2) (.int .i64 qg)) (fun _ hk=>hk.2) (.int .i64 qh)) (fun _ hk=>hk.2) (.int .i64 qn)) (fun _ hk=>hk.2) (.int .i64 qj)) (fun _ hk=>hk.2) (.int .i64 qk)) (fun _ hk=>hk.2) (.int .i64 ql)) (fun _ h_=>h_.1))) : P:=h
theorem z61x4 {P : Prop} (h : P:=by (with_reducible repeat (first|apply Kd.V_alloc|apply Kd.V_drewN|apply Kd.V_drew));exact (Kd.V_mono (Kd.V_far (p:=⟨qd,3,none⟩) (Kd.V_far (p:=⟨qd,6,none⟩) (Kd.V_far (p:=⟨qd,5,none⟩) (Kd.V_far (p:=⟨qd,4,none⟩) (Kd.V_far (p:=⟨qd,3,none⟩) (Kd.V_far (p:=⟨qd,2,none⟩) (Kd.V_far (p:=⟨qd,1,none⟩) (Kd.V_far (p:=⟨qd,0,none⟩) (Kd.V_mono HO_8.out (fun k_ hk=>(⟨hk,hk.2⟩ : _ ∧ k_ ≠ qd))) (fun _ hk=>hk.2) (.int .i64 qf)) (fun _ hk=>hk.2) (.int .i64 qg)) (fun _ hk=>hk.2) (.int .i64 qh)) (fun _ hk=>hk.2) (.int .i64 qn)) (fun _ hk=>hk.2) (.int .i64 qj)) (fun _ hk=>hk.2) (.int .i64 qk)) (fun _ hk=>hk.2) (.int .i64 ql)) (fun _ hk=>hk.2) (.int .i64 (wrap64 ((wrap64 (qm + 3)) + 1)))) (fun _ h_=>h_.1))) : P:=h
theorem z61x3 {P : Prop} (h : P:=by (with_reducible repeat (first|apply Kd.R_alloc|apply Kd.R_drewN|apply Kd.R_drew));exact (Kd.R_mono (Kd.R_far (p:=⟨qd,3,none⟩) (Kd.R_far (p:=⟨qd,6,none⟩) (Kd.R_far (p:=⟨qd,5,none⟩) (Kd.R_far (p:=⟨qd,4,none⟩) (Kd.R_far (p:=⟨qd,3,none⟩) (Kd.R_far (p:=⟨qd,2,none⟩) (Kd.R_far (p:=⟨qd,1,none⟩) (Kd.R_far (p:=⟨qd,0,none⟩) (Kd.R_mono HO_6.out (fun k_ hk=>(⟨hk,hk.2⟩ : _ ∧ k_ ≠ qd))) (fun _ hk=>hk.2) (.int .i64 qf)) (fun _ hk=>hk.2) (.int .i64 qg)) (fun _ hk=>hk.2) (.int .i64 qh)) (fun _ hk=>hk.2) (.int .i64 qn)) (fun _ hk=>hk.2) (.int .i64 qj)) (fun _ hk=>hk.2) (.int .i64 qk)) (fun _ hk=>hk.2) (.int .i64 ql)) (fun _ hk=>hk.2) (.int .i64 (wrap64 ((wrap64 (qm + 3)) + 1)))) (fun _ h_=>h_.1))) : P:=h
theorem z61x2 {P : Prop} (h : P:=by (with_reducible repeat (first|refine blk_drewN ?_ _|refine blk_drew ?_|refine blk_alloc ?_ _));refine blk_far ?_ qp.out _;(with_reducible repeat (first|refine blk_drewN ?_ _|refine blk_drew ?_|refine blk_alloc ?_ _));refine blk_far ?_ qp.out _;(with_reducible repeat (first|refine blk_drewN ?_ _|refine blk_drew ?_|refine blk_alloc ?_ _));refine blk_far ?_ qp.out _;(with_reducible repeat (first|refine blk_drewN ?_ _|refine blk_drew ?_|refine blk_alloc ?_ _));refine blk_far ?_ qp.out _;(with_reducible repeat (first|refine blk_drewN ?_ _|refine blk_drew ?_|refine blk_alloc ?_ _));refine blk_far ?_ qp.out _;(with_reducible repeat (first|refine blk_drewN ?_ _|refine blk_drew ?_|refine blk_alloc ?_ _));refine blk_far ?_ qp.out _;(with_reducible repeat (first|refine blk_drewN ?_ _|refine blk_drew ?_|refine blk_alloc ?_ _));refine blk_far ?_ qp.out _;(with_reducible repeat (first|refine blk_drewN ?_ _|refine blk_drew ?_|refine blk_alloc ?_ _));refine blk_far ?_ qp.out _;(with_reducible repeat (first|refine blk_drewN ?_ _|refine blk_drew ?_|refine blk_alloc ?_ _));exact qb.out) : P:=h
theorem z61x1 {P : Prop} (h : P:=by (with_reducible repeat (first|refine blk_drewN ?_ _|refine blk_drew ?_|refine blk_alloc ?_ _));refine blk_put (cs:=#[.int .i64 qf,.int .i64 qg,.int .i64 qh,.int .i64 qn,.int .i64 qj,.int .i64 qk,.int .i64 0]) ?_ 6 _ rfl;(with_reducible repeat (first|refine blk_drewN ?_ _|refine blk_drew ?_|refine blk_alloc ?_ _));refine blk_put (cs:=#[.int .i64 qf,.int .i64 qg,.int .i64 qh,.int .i64 qn,.int .i64 qj,.int .i64 0,.int .i64 0]) ?_ 5 _ rfl;(with_reducible repeat (first|refine blk_drewN ?_ _|refine blk_drew ?_|refine blk_alloc ?_ _));refine blk_put (cs:=#[.int .i64 qf,.int .i64 qg,.int .i64 qh,.int .i64 qn,.int .i64 0,.int .i64 0,.int .i64 0]) ?_ 4 _ rfl;(with_reducible repeat (first|refine blk_drewN ?_ _|refine blk_drew ?_|refine blk_alloc ?_ _));refine blk_put (cs:=#[.int .i64 qf,.int .i64 qg,.int .i64 qh,.int .i64 0,.int .i64 0,.int .i64 0,.int .i64 0]) ?_ 3 _ rfl;(with_reducible repeat (first|refine blk_drewN ?_ _|refine blk_drew ?_|refine blk_alloc ?_ _));refine blk_put (cs:=#[.int .i64 qf,.int .i64 qg,.int .i64 0,.int .i64 0,.int .i64 0,.int .i64 0,.int .i64 0]) ?_ 2 _ rfl;(with_reducible repeat (first|refine blk_drewN ?_ _|refine blk_drew ?_|refine blk_alloc ?_ _));refine blk_put (cs:=#[.int .i64 qf,.int .i64 0,.int .i64 0,.int .i64 0,.int .i64 0,.int .i64 0,.int .i64 0]) ?_ 1 _ rfl;(with_reducible repeat (first|refine blk_drewN ?_ _|refine blk_drew ?_|refine blk_alloc ?_ _));refine blk_put (cs:=#[.int .i64 0,.int .i64 0,.int .i64 0,.int .i64 0,.int .i64 0,.int .i64 0,.int .i64 0]) ?_ 0 _ rfl;(with_reducible repeat (first|refine blk_drewN ?_ _|refine blk_drew ?_|refine blk_alloc ?_ _));exact qb.out) : P:=h
theorem z61x0 {P : Prop} (h : P:=by (with_reducible repeat (first|refine blk_drewN ?_ _|refine blk_drew ?_|refine blk_alloc ?_ _));refine blk_put (cs:=#[.int .i64 qf,.int .i64 qg,.int .i64 qh,.int .i64 qn,.int .i64 qj,.int .i64 qk,.int .i64 ql]) ?_ 3 _ rfl;(with_reducible repeat (first|refine blk_drewN ?_ _|refine blk_drew ?_|refine blk_alloc ?_ _));refine blk_put (cs:=#[.int .i64 qf,.int .i64 qg,.int .i64 qh,.int .i64 qn,.int .i64 qj,.int .i64 qk,.int .i64 0]) ?_ 6 _ rfl;(with_reducible repeat (first|refine blk_drewN ?_ _|refine blk_drew ?_|refine blk_alloc ?_ _));refine blk_put (cs:=#[.int .i64 qf,.int .i64 qg,.int .i64 qh,.int .i64 qn,.int .i64 qj,.int .i64 0,.int .i64 0]) ?_ 5 _ rfl;(with_reducible repeat (first|refine blk_drewN ?_ _|refine blk_drew ?_|refine blk_alloc ?_ _));refine blk_put (cs:=#[.int .i64 qf,.int .i64 qg,.int .i64 qh,.int .i64 qn,.int .i64 0,.int .i64 0,.int .i64 0]) ?_ 4 _ rfl;(with_reducible repeat (first|refine blk_drewN ?_ _|refine blk_drew ?_|refine blk_alloc ?_ _));refine blk_put (cs:=#[.int .i64 qf,.int .i64 qg,.int .i64 qh,.int .i64 0,.int .i64 0,.int .i64 0,.int .i64 0]) ?_ 3 _ rfl;(with_reducible repeat (first|refine blk_drewN ?_ _|refine blk_drew ?_|refine blk_alloc ?_ _));refine blk_put (cs:=#[.int .i64 qf,.int .i64 qg,.int .i64 0,.int .i64 0,.int .i64 0,.int .i64 0,.int .i64 0]) ?_ 2 _ rfl;(with_reducible repeat (first|refine blk_drewN ?_ _|refine blk_drew ?_|refine blk_alloc ?_ _));refine blk_put (cs:=#[.int .i64 qf,.int .i64 0,.int .i64 0,.int .i64 0,.int .i64 0,.int .i64 0,.int .i64 0]) ?_ 1 _ rfl;(with_reducible repeat (first|refine blk_drewN ?_ _|refine blk_drew ?_|refine blk_alloc ?_ _));refine blk_put (cs:=#[.int .i64 0,.int .i64 0,.int .i64 0,.int .i64 0,.int .i64 0,.int .i64 0,.int .i64 0]) ?_ 0 _ rfl;(with_reducible repeat (first|refine blk_drewN ?_ _|refine blk_drew ?_|refine blk_alloc ?_ _));exact qe.out) : P:=h

/-! ### laws_FnCacheLater: function 8 -/
def laws_FnCacheLater.j0 : Nat → Int → List (S41) → Bool → List (S41) → Bool → Bool → Int → Int → Int → Int → Int → Int → Int → Option (Bool)
 | 0,_,_,_,_,_,_,_,_,_,_,_,_,_=>none
 | k + 1,x5,x6,x7,x8,x9,x55,wq,wo,wn,jg,wm,wl,wk=>if x55 = true then (if (x9 == x7) = true then ((laws_lbSeals.f k x8 x6).bind fun ww=>(some ww)) else (some false)) else ((impl_CacheWith.f k x8 wq wo wn (wrap64 ((wrap64 (x5 + 3)) + 1)) wm wl wk (wrap64 ((wrap64 (x5 + 3)) + 1))).bind fun ua=>(if ua.2 = true then ((laws_lbSeals.f k ua.1 (([(⟨wq,wo,wn,wrap64 ((wrap64 (x5 + 3)) + 1),wm,wl,wk⟩ : S41)] : List (S41)))).bind fun wg=>(some wg)) else (some false)))
def laws_FnCacheLater.f (k : Nat) (l0 : List Int) : Option (Bool):=if (l0.length : Int) > 1048576 then (some true) else ((spec_DrawCacheWith.f k l0).bind fun qa=>((spec_CacheWith.f k qa.1 qa.2.1 qa.2.2.1 qa.2.2.2.1 qa.2.2.2.2.1 qa.2.2.2.2.2.1 qa.2.2.2.2.2.2.1 qa.2.2.2.2.2.2.2.1 qa.2.2.2.2.2.2.2.2).bind fun qo=>((impl_CacheWith.f k qa.1 qa.2.1 qa.2.2.1 qa.2.2.2.1 qa.2.2.2.2.1 qa.2.2.2.2.2.1 qa.2.2.2.2.2.2.1 qa.2.2.2.2.2.2.2.1 qa.2.2.2.2.2.2.2.2).bind fun qi=>(if (qi.2 != qo.2) = true then (laws_FnCacheLater.j0 k qa.2.2.2.2.2.2.2.2 qo.1 qo.2 qi.1 qi.2 true qa.2.1 qa.2.2.1 qa.2.2.2.1 qa.2.2.2.2.1 qa.2.2.2.2.2.1 qa.2.2.2.2.2.2.1 qa.2.2.2.2.2.2.2.1) else ((laws_lbSeals.f k qi.1 qo.1).bind fun wa=>(if wa = true then (if qi.2 = true then (laws_FnCacheLater.j0 k qa.2.2.2.2.2.2.2.2 qo.1 qo.2 qi.1 qi.2 (decide ((wrap64 ((wrap64 (qa.2.2.2.2.2.2.2.2 + 3)) + 1)) > 100)) qa.2.1 qa.2.2.1 qa.2.2.2.1 qa.2.2.2.2.1 qa.2.2.2.2.2.1 qa.2.2.2.2.2.2.1 qa.2.2.2.2.2.2.2.1) else (laws_FnCacheLater.j0 k qa.2.2.2.2.2.2.2.2 qo.1 qo.2 qi.1 qi.2 true qa.2.1 qa.2.2.1 qa.2.2.2.1 qa.2.2.2.2.1 qa.2.2.2.2.2.1 qa.2.2.2.2.2.2.1 qa.2.2.2.2.2.2.2.1)) else (laws_FnCacheLater.j0 k qa.2.2.2.2.2.2.2.2 qo.1 qo.2 qi.1 qi.2 true qa.2.1 qa.2.2.1 qa.2.2.2.1 qa.2.2.2.2.1 qa.2.2.2.2.2.1 qa.2.2.2.2.2.2.1 qa.2.2.2.2.2.2.2.1)))))))
theorem laws_FnCacheLater.mono_l : ∀ k,(∀ y0 y1 y2 y3 y4 y5 y6 y7 y8 y9 y10 y11 y12,LeO (laws_FnCacheLater.j0 k y0 y1 y2 y3 y4 y5 y6 y7 y8 y9 y10 y11 y12) (laws_FnCacheLater.j0 (k + 1) y0 y1 y2 y3 y4 y5 y6 y7 y8 y9 y10 y11 y12))
 | 0=>fun _ _ _ _ _ _ _ _ _ _ _ _ _ r h=>by simp [laws_FnCacheLater.j0] at h
 | k + 1=>by
  have ih0:=laws_FnCacheLater.mono_l k
  ·intro y0 y1 y2 y3 y4 y5 y6 y7 y8 y9 y10 y11 y12
   unfold laws_FnCacheLater.j0
   repeat' first
   | (with_reducible exact ih0 _ _ _ _ _ _ _ _ _ _ _ _ _)
   | (with_reducible exact impl_CacheWith.mono _ _ _ _ _ _ _ _ _ _)
   | (with_reducible exact laws_lbSeals.mono _ _ _)
   | (with_reducible exact spec_CacheWith.mono _ _ _ _ _ _ _ _ _ _)
   | (with_reducible exact spec_DrawCacheWith.mono _ _)
   | (with_reducible exact LeO.refl _)
   | (with_reducible exact LeO.none _)
   | (with_reducible refine LeO.ite ?_ ?_)
   | (with_reducible refine LeO.bind ?_ (fun _=>?_))
   | exact ih0 _ _ _ _ _ _ _ _ _ _ _ _ _
   | exact impl_CacheWith.mono _ _ _ _ _ _ _ _ _ _
   | exact laws_lbSeals.mono _ _ _
   | exact spec_CacheWith.mono _ _ _ _ _ _ _ _ _ _
   | exact spec_DrawCacheWith.mono _ _
   | exact LeO.none _
   | refine LeO.ite ?_ ?_
   | refine LeO.bind ?_ (fun _=>?_)
theorem laws_FnCacheLater.mono : ∀ a0 k,LeO (laws_FnCacheLater.f k a0) (laws_FnCacheLater.f (k + 1) a0):=by
 intro a0 k
 have ih0:=laws_FnCacheLater.mono_l k
 unfold laws_FnCacheLater.f
 repeat' first
   | (with_reducible exact ih0 _ _ _ _ _ _ _ _ _ _ _ _ _)
   | (with_reducible exact impl_CacheWith.mono _ _ _ _ _ _ _ _ _ _)
   | (with_reducible exact laws_lbSeals.mono _ _ _)
   | (with_reducible exact spec_CacheWith.mono _ _ _ _ _ _ _ _ _ _)
   | (with_reducible exact spec_DrawCacheWith.mono _ _)
   | (with_reducible exact LeO.refl _)
   | (with_reducible exact LeO.none _)
   | (with_reducible refine LeO.ite ?_ ?_)
   | (with_reducible refine LeO.bind ?_ (fun _=>?_))
   | exact ih0 _ _ _ _ _ _ _ _ _ _ _ _ _
   | exact impl_CacheWith.mono _ _ _ _ _ _ _ _ _ _
   | exact laws_lbSeals.mono _ _ _
   | exact spec_CacheWith.mono _ _ _ _ _ _ _ _ _ _
   | exact spec_DrawCacheWith.mono _ _
   | exact LeO.none _
   | refine LeO.ite ?_ ?_
   | refine LeO.bind ?_ (fun _=>?_)
set_option maxHeartbeats 8000000 in
set_option maxRecDepth 100000 in
theorem laws_FnCacheLater.calls (k : Nat) (A0 : Option Addr) (c0 : Nat) (l0 : List Int) (r : Bool) (w : World) (hr0 : Kd.C (Kd.int .u8) w A0 l0.length l0) (hc0 : l0.length ≤ c0) (h : laws_FnCacheLater.f k l0 = some r) :
  Calls Try.prog 8 #[.slice A0 l0.length c0] w fun e w' => e = .returned (.bool r) ∧ Below w.heap.size w w':=by
 have qbe:=Try.underlying41
 have HR0:=Aside0.mk hr0
 have HC0:=Aside0.mk hc0
 clear hr0 hc0
 have HB:=Aside0.mk (Below.refl w.heap.size w)
 have H : (if (l0.length : Int) > 1048576 then (some true) else ((spec_DrawCacheWith.f k l0).bind fun qa=>((spec_CacheWith.f k qa.1 qa.2.1 qa.2.2.1 qa.2.2.2.1 qa.2.2.2.2.1 qa.2.2.2.2.2.1 qa.2.2.2.2.2.2.1 qa.2.2.2.2.2.2.2.1 qa.2.2.2.2.2.2.2.2).bind fun qo=>((impl_CacheWith.f k qa.1 qa.2.1 qa.2.2.1 qa.2.2.2.1 qa.2.2.2.2.1 qa.2.2.2.2.2.1 qa.2.2.2.2.2.2.1 qa.2.2.2.2.2.2.2.1 qa.2.2.2.2.2.2.2.2).bind fun qi=>(if (qi.2 != qo.2) = true then (laws_FnCacheLater.j0 k qa.2.2.2.2.2.2.2.2 qo.1 qo.2 qi.1 qi.2 true qa.2.1 qa.2.2.1 qa.2.2.2.1 qa.2.2.2.2.1 qa.2.2.2.2.2.1 qa.2.2.2.2.2.2.1 qa.2.2.2.2.2.2.2.1) else ((laws_lbSeals.f k qi.1 qo.1).bind fun wa=>(if wa = true then (if qi.2 = true then (laws_FnCacheLater.j0 k qa.2.2.2.2.2.2.2.2 qo.1 qo.2 qi.1 qi.2 (decide ((wrap64 ((wrap64 (qa.2.2.2.2.2.2.2.2 + 3)) + 1)) > 100)) qa.2.1 qa.2.2.1 qa.2.2.2.1 qa.2.2.2.2.1 qa.2.2.2.2.2.1 qa.2.2.2.2.2.2.1 qa.2.2.2.2.2.2.2.1) else (laws_FnCacheLater.j0 k qa.2.2.2.2.2.2.2.2 qo.1 qo.2 qi.1 qi.2 true qa.2.1 qa.2.2.1 qa.2.2.2.1 qa.2.2.2.2.1 qa.2.2.2.2.2.1 qa.2.2.2.2.2.2.1 qa.2.2.2.2.2.2.2.1)) else (laws_FnCacheLater.j0 k qa.2.2.2.2.2.2.2.2 qo.1 qo.2 qi.1 qi.2 true qa.2.1 qa.2.2.1 qa.2.2.2.1 qa.2.2.2.2.1 qa.2.2.2.2.2.1 qa.2.2.2.2.2.2.1 qa.2.2.2.2.2.2.2.1)))))))) = some r:=h
 clear h
 by_cases c2 : (l0.length : Int) > 1048576
 ·rw [if_pos c2] at H
  have ux : decide (1048576 < (l0.length : Int)) = true:=decide_eq_true c2
  have uw : decide (1048576 < l0.length) = true:=decide_eq_true (by omega)
  clear c2
  obtain rfl:=Option.some.inj H
  go_enter Try.func8,Try.ntmps8
  go_wp2
  go_ret
  exact ⟨by first|rfl|(simp [errW_none,errW_some] <;> rfl)|(simp [*,errW_none,errW_some] <;> rfl),by repeat (first|(with_reducible first|exact HB.out|apply below_alloc|apply pw_below_drewN|apply below_drew1)|exact HB.out)⟩
 ·rw [if_neg c2] at H
  have ux : decide (1048576 < (l0.length : Int)) = false:=decide_eq_false c2
  have uw : decide (1048576 < l0.length) = false:=decide_eq_false (by omega)
  clear c2
  replace H:=Option.bind_eq_some_iff.mp H
  obtain ⟨⟨wd,qf,qg,qh,qn,qj,qk,ql,qm⟩,A30,H⟩:=H
  replace H : ((spec_CacheWith.f k wd qf qg qh qn qj qk ql qm).bind fun qo=>((impl_CacheWith.f k wd qf qg qh qn qj qk ql qm).bind fun qi=>(if (qi.2 != qo.2) = true then (laws_FnCacheLater.j0 k qm qo.1 qo.2 qi.1 qi.2 true qf qg qh qn qj qk ql) else ((laws_lbSeals.f k qi.1 qo.1).bind fun wa=>(if wa = true then (if qi.2 = true then (laws_FnCacheLater.j0 k qm qo.1 qo.2 qi.1 qi.2 (decide ((wrap64 ((wrap64 (qm + 3)) + 1)) > 100)) qf qg qh qn qj qk ql) else (laws_FnCacheLater.j0 k qm qo.1 qo.2 qi.1 qi.2 true qf qg qh qn qj qk ql)) else (laws_FnCacheLater.j0 k qm qo.1 qo.2 qi.1 qi.2 true qf qg qh qn qj qk ql)))))) = some r:=H
  have A3:=Aside0.mk A30
  clear A30
  replace H:=Option.bind_eq_some_iff.mp H
  obtain ⟨⟨qv,qq⟩,A40,H⟩:=H
  replace H : ((impl_CacheWith.f k wd qf qg qh qn qj qk ql qm).bind fun qi=>(if (qi.2 != qq) = true then (laws_FnCacheLater.j0 k qm qv qq qi.1 qi.2 true qf qg qh qn qj qk ql) else ((laws_lbSeals.f k qi.1 qv).bind fun wa=>(if wa = true then (if qi.2 = true then (laws_FnCacheLater.j0 k qm qv qq qi.1 qi.2 (decide ((wrap64 ((wrap64 (qm + 3)) + 1)) > 100)) qf qg qh qn qj qk ql) else (laws_FnCacheLater.j0 k qm qv qq qi.1 qi.2 true qf qg qh qn qj qk ql)) else (laws_FnCacheLater.j0 k qm qv qq qi.1 qi.2 true qf qg qh qn qj qk ql))))) = some r:=H
  have A4:=Aside0.mk A40
  clear A40
  replace H:=Option.bind_eq_some_iff.mp H
  obtain ⟨⟨qu,qr⟩,A50,H⟩:=H
  replace H : (if (qr != qq) = true then (laws_FnCacheLater.j0 k qm qv qq qu qr true qf qg qh qn qj qk ql) else ((laws_lbSeals.f k qu qv).bind fun wa=>(if wa = true then (if qr = true then (laws_FnCacheLater.j0 k qm qv qq qu qr (decide ((wrap64 ((wrap64 (qm + 3)) + 1)) > 100)) qf qg qh qn qj qk ql) else (laws_FnCacheLater.j0 k qm qv qq qu qr true qf qg qh qn qj qk ql)) else (laws_FnCacheLater.j0 k qm qv qq qu qr true qf qg qh qn qj qk ql)))) = some r:=H
  have A5:=Aside0.mk A50
  clear A50
  have HC6:=Aside0.mk H
  clear H
  go_enter Try.func8,Try.ntmps8
  go_upto_region 6 with (first|((with_reducible refine gate_callee (f:=39) rfl ?_);refine goesL_ (some 19) rfl rfl Try.func39 (by kernel_rfl) rfl #[.slice A0 l0.length c0] rfl z61x11 ?_;(with_reducible refine (spec_DrawCacheWith.calls k _ _ l0 wd qf qg qh qn qj qk ql qm _ ?side1 ?side2 A3.out).mono ?_);(case side1=>repeat (first|exact HR0.out|(with_reducible refine Kd.C_alloc ?_ _)|(with_reducible refine Kd.C_drewN ?_ _)|(with_reducible refine Kd.C_drew ?_)));(case side2=>exact HC0.out);rintro e w7 ⟨qbd,rfl,ho0,hb⟩; refine ⟨_,rfl,?_⟩; have n0_:=Aside0.mk (Kd.R_lower ho0 (below_size z61x12));have n1_:=Aside0.mk (below_step z61x12 hb);clear HB;have qx:=n0_;have HB:=n1_;clear n0_ n1_;(try clear hb);(try clear hb2);(try clear hk);(try clear hi);(try clear ho0))|((with_reducible refine gate_dst (N:=4) rfl ?_);refine box_event ?hg (N:=4) ?hd (cs:=#[.int .i64 0,.int .i64 0,.int .i64 0,.int .i64 0,.int .i64 0,.int .i64 0,.int .i64 0]) (t:=41) ?hr ?_;(case hd=>rfl);(case hg=>rfl);(case hr=>first|(go_simp;done)|(go_simp;rfl));intro qc hg w8 hbox hb;have n0_:=Aside0.mk (Kd.R_below (Kd.R_elderB z61x14 qc (Nat.le_of_eq hg.symm)) hb);have n1_:=Aside0.mk (below_step z61x12 hb);have n2_:=Aside0.mk (hbox);have n3_:=Aside0.mk ((by rw [hg];exact (below_size z61x12) : w.heap.size ≤ qc));have n4_:=Aside0.mk ((by rw [hg];exact (below_size z61x12) : w.heap.size ≤ qc));clear qx;clear HB;have qx:=n0_;have HB:=n1_;have qb:=n2_;have qbb:=n3_;have qy:=n4_;clear n0_ n1_ n2_ n3_ n4_;clear hb hbox hg;have uq : w8.cell? ⟨qc,0,none⟩ = some (.int .i64 0):=(blk_cell qb.out 0).trans rfl;have uo : w8.cell? ⟨qc,1,none⟩ = some (.int .i64 0):=(blk_cell qb.out 1).trans rfl;have un : w8.cell? ⟨qc,2,none⟩ = some (.int .i64 0):=(blk_cell qb.out 2).trans rfl;have um : w8.cell? ⟨qc,3,none⟩ = some (.int .i64 0):=(blk_cell qb.out 3).trans rfl;have ul : w8.cell? ⟨qc,4,none⟩ = some (.int .i64 0):=(blk_cell qb.out 4).trans rfl;have uk : w8.cell? ⟨qc,5,none⟩ = some (.int .i64 0):=(blk_cell qb.out 5).trans rfl;have uj : w8.cell? ⟨qc,6,none⟩ = some (.int .i64 0):=(blk_cell qb.out 6).trans rfl;have ui:=blk_frozen qb.out 0;have uh:=blk_frozen qb.out 1;have ug:=blk_frozen qb.out 2;have uf:=blk_frozen qb.out 3;have ue:=blk_frozen qb.out 4;have ud:=blk_frozen qb.out 5;have uc:=blk_frozen qb.out 6;obtain ⟨ur,vx,qas⟩:=Kd.R_slice qx.out;subst qas)|((with_reducible refine gate_callee (f:=40) rfl ?_);refine goesL_ (some 27) rfl rfl Try.func40 (by kernel_rfl) rfl #[.slice ur wd.length vx,.agg #[.int .i64 qf,.int .i64 qg,.int .i64 qh,.int .i64 qn,.int .i64 qj,.int .i64 qk,.int .i64 ql],.int .i64 qm] rfl z61x11 ?_;(with_reducible refine (spec_CacheWith.calls k _ _ wd qf qg qh qn qj qk ql qm qv qq _ ?side1 ?side2 A4.out).mono ?_);(case side1=>refine (Kd.R_reads' (e:=41) (base:=w.heap.size) (ok:=fun k_=>(True ∧ k_ ≠ qc)) (n:=wd.length) (c:=vx) ?_).2.2;exact z61x5);(case side2=>exact (Kd.R_reads' qx.out).2.1);rintro e w11 ⟨wj,rfl,ho0,hb⟩; refine ⟨_,rfl,?_⟩; have n0_:=Aside0.mk (Kd.R_elder' z61x5 (Kd.R_base ho0) hb);have n1_:=Aside0.mk (Kd.R_lower (Kd.R_newB (Kd.R_new' ho0 (Kd.R_lt z61x5)) (g:=qc) (o:=.cells #[.int .i64 qf,.int .i64 qg,.int .i64 qh,.int .i64 qn,.int .i64 qj,.int .i64 qk,.int .i64 ql] 41 (0,0)) z61x1) (below_size z61x10));have n2_:=Aside0.mk (blk_below (g:=qc) (o:=.cells #[.int .i64 qf,.int .i64 qg,.int .i64 qh,.int .i64 qn,.int .i64 qj,.int .i64 qk,.int .i64 ql] 41 (0,0)) z61x1 hb);have n3_:=Aside0.mk (below_step z61x10 hb);clear qx;clear qb;clear HB;have qx:=n0_;have qt:=n1_;have qb:=n2_;have HB:=n3_;clear n0_ n1_ n2_ n3_;(try clear hb);(try clear hb2);(try clear hk);(try clear hi);(try clear ho0);have vw : w11.cell? ⟨qc,0,none⟩ = some (.int .i64 qf):=(blk_cell qb.out 0).trans rfl;have vv : w11.cell? ⟨qc,1,none⟩ = some (.int .i64 qg):=(blk_cell qb.out 1).trans rfl;have vu : w11.cell? ⟨qc,2,none⟩ = some (.int .i64 qh):=(blk_cell qb.out 2).trans rfl;have vt : w11.cell? ⟨qc,3,none⟩ = some (.int .i64 qn):=(blk_cell qb.out 3).trans rfl;have vr : w11.cell? ⟨qc,4,none⟩ = some (.int .i64 qj):=(blk_cell qb.out 4).trans rfl;have vq : w11.cell? ⟨qc,5,none⟩ = some (.int .i64 qk):=(blk_cell qb.out 5).trans rfl;have vp : w11.cell? ⟨qc,6,none⟩ = some (.int .i64 ql):=(blk_cell qb.out 6).trans rfl;have vo:=blk_frozen qb.out 0;have vn:=blk_frozen qb.out 1;have vm:=blk_frozen qb.out 2;have vl:=blk_frozen qb.out 3;have vk:=blk_frozen qb.out 4;have wz:=blk_frozen qb.out 5;have wy:=blk_frozen qb.out 6)|((with_reducible refine gate_callee (f:=41) rfl ?_);refine goesL_ (some 34) rfl rfl Try.func41 (by kernel_rfl) rfl #[.slice ur wd.length vx,.agg #[.int .i64 qf,.int .i64 qg,.int .i64 qh,.int .i64 qn,.int .i64 qj,.int .i64 qk,.int .i64 ql],.int .i64 qm] rfl z61x11 ?_;(with_reducible refine (impl_CacheWith.calls k _ _ wd qf qg qh qn qj qk ql qm qu qr _ ?side1 ?side2 A5.out).mono ?_);(case side1=>repeat (first|exact (Kd.R_reads' qx.out).2.2|(with_reducible refine Kd.C_alloc ?_ _)|(with_reducible refine Kd.C_drewN ?_ _)|(with_reducible refine Kd.C_drew ?_)));(case side2=>exact (Kd.R_reads' qx.out).2.1);rintro e w13 ⟨qaf,rfl,ho0,hb⟩; refine ⟨_,rfl,?_⟩; have n0_:=Aside0.mk (Kd.R_below z61x14 hb);have n1_:=Aside0.mk (Kd.R_below (by (with_reducible repeat (first|apply Kd.R_alloc|apply Kd.R_drewN|apply Kd.R_drew));exact qt.out) hb);have n2_:=Aside0.mk (Kd.V_lower (Kd.V_mono (ok':=fun k_=>some k_ ≠ (.slice ur wd.length vx : Value).ownBlock ∧ some k_ ≠ (wj : Value).ownBlock ∧ k_ ≠ qc) ho0 (fun k_ hk_=>⟨(Kd.fresh' (Kd.R_lt z61x14) k_ hk_),(Kd.fresh' (Kd.R_lt (by (with_reducible repeat (first|apply Kd.R_alloc|apply Kd.R_drewN|apply Kd.R_drew));exact qt.out)) k_ hk_),(Kd.freshB (g:=qc) (o:=.cells #[.int .i64 qf,.int .i64 qg,.int .i64 qh,.int .i64 qn,.int .i64 qj,.int .i64 qk,.int .i64 ql] 41 (0,0)) z61x13 k_ hk_)⟩)) (below_size z61x10));have n3_:=Aside0.mk (blk_below (g:=qc) (o:=.cells #[.int .i64 qf,.int .i64 qg,.int .i64 qh,.int .i64 qn,.int .i64 qj,.int .i64 qk,.int .i64 ql] 41 (0,0)) z61x13 hb);have n4_:=Aside0.mk (below_step z61x10 hb);clear qx;clear qt;clear qb;clear HB;have qx:=n0_;have qt:=n1_;have qw:=n2_;have qb:=n3_;have HB:=n4_;clear n0_ n1_ n2_ n3_ n4_;(try clear hb);(try clear hb2);(try clear hk);(try clear hi);(try clear ho0)))
  (try simp only [Act.put,List.setIfInBounds_toArray,List.set_cons_zero,List.set_cons_succ])
  go_cut [55] (fun v55 wc=>∃ (kq : Nat) (wr : Bool),v55 = .bool wr ∧ Aside0 (laws_FnCacheLater.j0 kq qm qv qq qu qr wr qf qg qh qn qj qk ql = some r) ∧ Aside0 (kq ≤ k) ∧ Aside0 (Kd.R k41 41 wc w.heap.size (fun k_=>k_ ≠ qc) wj qv) ∧ Aside0 (Kd.V k41 41 wc w.heap.size (fun k_=>some k_ ≠ (wj : Value).ownBlock ∧ k_ ≠ qc) qaf qu) ∧ Aside0 (wc.heap[qc]? = some (.cells #[.int .i64 qf,.int .i64 qg,.int .i64 qh,.int .i64 qn,.int .i64 qj,.int .i64 qk,.int .i64 ql] 41 (0,0))) ∧ Aside0 (Below w.heap.size w wc))
  case first =>
   have H:=HC6.out
   clear HC6
   by_cases c14 : (qr != qq) = true
   ·rw [if_pos c14] at H
    have we : (qr != qq) = true:=c14
    (try (have vz : decide (qr = qq) = false:=by simpa using c14))
    (try (have vy : (qr == qq) = false:=by simpa using c14))
    (try (have qba : ¬ (qr = qq):=by simpa using c14))
    clear c14
    (first|rw [we]|(simp only [i64_w,i32_w];rw [we])|skip)
    have H':=Aside0.mk H
    clear H
    go_wp2
    go_meet
    case rel=>exact ⟨_,(true),(by first|rfl|(simp;done)|(simp [*];done)),H',⟨by first|omega|exact Nat.le_refl _⟩,⟨by (with_reducible repeat (first|apply Kd.R_alloc|apply Kd.R_drewN|apply Kd.R_drew));exact Kd.R_mono qt.out (fun _ hk=>hk.2)⟩,⟨by (with_reducible repeat (first|apply Kd.V_alloc|apply Kd.V_drewN|apply Kd.V_drew));exact Kd.V_mono qw.out (fun _ hk=>⟨hk.2.1,hk.2.2⟩)⟩,⟨by (with_reducible repeat (first|refine blk_drewN ?_ _|refine blk_drew ?_|refine blk_alloc ?_ _));exact qb.out⟩,⟨by repeat (first|(with_reducible first|exact HB.out|apply below_alloc|apply pw_below_drewN|apply below_drew1|refine below_set ?_ qy.out)|exact HB.out)⟩⟩
   ·rw [if_neg c14] at H
    have we : (qr != qq) = false:=by simpa using c14
    (try (have vz : decide (qr = qq) = true:=by simpa using c14))
    (try (have vy : (qr == qq) = true:=by simpa using c14))
    clear c14
    (first|rw [we]|(simp only [i64_w,i32_w];rw [we])|skip)
    replace H:=Option.bind_eq_some_iff.mp H
    obtain ⟨wa,jf,H⟩:=H
    replace H : (if wa = true then (if qr = true then (laws_FnCacheLater.j0 k qm qv qq qu qr (decide ((wrap64 ((wrap64 (qm + 3)) + 1)) > 100)) qf qg qh qn qj qk ql) else (laws_FnCacheLater.j0 k qm qv qq qu qr true qf qg qh qn qj qk ql)) else (laws_FnCacheLater.j0 k qm qv qq qu qr true qf qg qh qn qj qk ql)) = some r:=H
    have A15:=Aside0.mk jf
    clear jf
    by_cases c16 : wa = true
    rotate_left
    ·replace c16:=Bool.eq_false_iff.mpr c16
     subst c16
     rw [if_neg (show ¬ (false = true) by decide)] at H
     have H':=Aside0.mk H
     clear H
     obtain ⟨qbu,qbk,qan⟩:=Kd.V_slice qw.out
     subst qan
     obtain ⟨qbt,qbj,qam⟩:=Kd.R_slice qt.out
     subst qam
     go_wp2_with (first|(go_at_call 42;(with_reducible refine (laws_lbSeals.calls k _ _ qu _ _ qv false _ ?side1 ?side2 ?side3 ?side4 A15.out).mono ?_);(case side1=>repeat (first|exact (Kd.V_reads' qw.out).2.2|(with_reducible refine Kd.C_alloc ?_ _)|(with_reducible refine Kd.C_drewN ?_ _)|(with_reducible refine Kd.C_drew ?_)));(case side2=>exact (Kd.V_reads' qw.out).2.1);(case side3=>repeat (first|exact (Kd.R_reads' qt.out).2.2|(with_reducible refine Kd.C_alloc ?_ _)|(with_reducible refine Kd.C_drewN ?_ _)|(with_reducible refine Kd.C_drew ?_)));(case side4=>exact (Kd.R_reads' qt.out).2.1);rintro e w' ⟨rfl,⟨nd,rfl⟩⟩))
     go_meet
     case rel=>exact ⟨_,(true),(by first|rfl|(simp;done)|(simp [*];done)),H',⟨by first|omega|exact Nat.le_refl _⟩,⟨by (with_reducible repeat (first|apply Kd.R_alloc|apply Kd.R_drewN|apply Kd.R_drew));exact Kd.R_mono qt.out (fun _ hk=>hk.2)⟩,⟨by (with_reducible repeat (first|apply Kd.V_alloc|apply Kd.V_drewN|apply Kd.V_drew));exact Kd.V_mono qw.out (fun _ hk=>⟨hk.2.1,hk.2.2⟩)⟩,⟨by (with_reducible repeat (first|refine blk_drewN ?_ _|refine blk_drew ?_|refine blk_alloc ?_ _));exact qb.out⟩,⟨by repeat (first|(with_reducible first|exact HB.out|apply below_alloc|apply pw_below_drewN|apply below_drew1|refine below_set ?_ qy.out)|exact HB.out)⟩⟩
    subst c16
    rw [if_pos rfl] at H
    by_cases c17 : qr = true
    ·subst c17
     rw [if_pos rfl] at H
     have H':=Aside0.mk H
     clear H
     obtain ⟨qby,qbo,qar⟩:=Kd.V_slice qw.out
     subst qar
     obtain ⟨qbx,qbn,qaq⟩:=Kd.R_slice qt.out
     subst qaq
     go_wp2_with (first|(go_at_call 42;(with_reducible refine (laws_lbSeals.calls k _ _ qu _ _ qv true _ ?side1 ?side2 ?side3 ?side4 A15.out).mono ?_);(case side1=>repeat (first|exact (Kd.V_reads' qw.out).2.2|(with_reducible refine Kd.C_alloc ?_ _)|(with_reducible refine Kd.C_drewN ?_ _)|(with_reducible refine Kd.C_drew ?_)));(case side2=>exact (Kd.V_reads' qw.out).2.1);(case side3=>repeat (first|exact (Kd.R_reads' qt.out).2.2|(with_reducible refine Kd.C_alloc ?_ _)|(with_reducible refine Kd.C_drewN ?_ _)|(with_reducible refine Kd.C_drew ?_)));(case side4=>exact (Kd.R_reads' qt.out).2.1);rintro e w' ⟨rfl,⟨nd,rfl⟩⟩))
     go_meet
     case rel=>exact ⟨_,(decide ((wrap64 ((wrap64 (qm + 3)) + 1)) > 100)),(by first|rfl|(simp;done)|(simp [*];done)),H',⟨by first|omega|exact Nat.le_refl _⟩,⟨by (with_reducible repeat (first|apply Kd.R_alloc|apply Kd.R_drewN|apply Kd.R_drew));exact Kd.R_mono qt.out (fun _ hk=>hk.2)⟩,⟨by (with_reducible repeat (first|apply Kd.V_alloc|apply Kd.V_drewN|apply Kd.V_drew));exact Kd.V_mono qw.out (fun _ hk=>⟨hk.2.1,hk.2.2⟩)⟩,⟨by (with_reducible repeat (first|refine blk_drewN ?_ _|refine blk_drew ?_|refine blk_alloc ?_ _));exact qb.out⟩,⟨by repeat (first|(with_reducible first|exact HB.out|apply below_alloc|apply pw_below_drewN|apply below_drew1|refine below_set ?_ qy.out)|exact HB.out)⟩⟩
    ·replace c17:=Bool.eq_false_iff.mpr c17
     subst c17
     rw [if_neg (show ¬ (false = true) by decide)] at H
     have H':=Aside0.mk H
     clear H
     obtain ⟨qbw,qbm,qap⟩:=Kd.V_slice qw.out
     subst qap
     obtain ⟨qbv,qbl,qao⟩:=Kd.R_slice qt.out
     subst qao
     go_wp2_with (first|(go_at_call 42;(with_reducible refine (laws_lbSeals.calls k _ _ qu _ _ qv true _ ?side1 ?side2 ?side3 ?side4 A15.out).mono ?_);(case side1=>repeat (first|exact (Kd.V_reads' qw.out).2.2|(with_reducible refine Kd.C_alloc ?_ _)|(with_reducible refine Kd.C_drewN ?_ _)|(with_reducible refine Kd.C_drew ?_)));(case side2=>exact (Kd.V_reads' qw.out).2.1);(case side3=>repeat (first|exact (Kd.R_reads' qt.out).2.2|(with_reducible refine Kd.C_alloc ?_ _)|(with_reducible refine Kd.C_drewN ?_ _)|(with_reducible refine Kd.C_drew ?_)));(case side4=>exact (Kd.R_reads' qt.out).2.1);rintro e w' ⟨rfl,⟨nd,rfl⟩⟩))
     go_meet
     case rel=>exact ⟨_,(true),(by first|rfl|(simp;done)|(simp [*];done)),H',⟨by first|omega|exact Nat.le_refl _⟩,⟨by (with_reducible repeat (first|apply Kd.R_alloc|apply Kd.R_drewN|apply Kd.R_drew));exact Kd.R_mono qt.out (fun _ hk=>hk.2)⟩,⟨by (with_reducible repeat (first|apply Kd.V_alloc|apply Kd.V_drewN|apply Kd.V_drew));exact Kd.V_mono qw.out (fun _ hk=>⟨hk.2.1,hk.2.2⟩)⟩,⟨by (with_reducible repeat (first|refine blk_drewN ?_ _|refine blk_drew ?_|refine blk_alloc ?_ _));exact qb.out⟩,⟨by repeat (first|(with_reducible first|exact HB.out|apply below_alloc|apply pw_below_drewN|apply below_drew1|refine below_set ?_ qy.out)|exact HB.out)⟩⟩
  case rest =>
   clear HC6
   try clear c1
   try clear c2
   try clear ux
   try clear uw
   try clear p2
   try clear c3
   try clear c4
   try clear p6
   try clear c8
   try clear c14
   try clear we
   try clear vz
   try clear vy
   try clear c16
   try clear c17
   try clear vw
   try clear vv
   try clear vu
   try clear vt
   try clear vr
   try clear vq
   try clear vp
   try clear uq
   try clear uo
   try clear un
   try clear um
   try clear ul
   try clear uk
   try clear uj
   try clear vo
   try clear vn
   try clear vm
   try clear vl
   try clear vk
   try clear wz
   try clear wy
   try clear ui
   try clear uh
   try clear ug
   try clear uf
   try clear ue
   try clear ud
   try clear uc
   obtain ⟨kq,wr,rfl,HA,HJ5,HO_6,HO_8,qb,HB⟩:=hcut
   cases kq with
   | zero=>exact absurd HA.out (by simp [laws_FnCacheLater.j0])
   | succ kj5 =>
    have H:=HA.out
    clear HA
    simp only [laws_FnCacheLater.j0] at H
    by_cases c24 : wr = true
    ·subst c24
     rw [if_pos rfl] at H
     by_cases c25 : (qr == qq) = true
     rotate_left
     ·rw [if_neg c25] at H
      have ja : (qr == qq) = false:=by simpa using c25
      (try (have uz : decide (qr = qq) = false:=by simpa using c25))
      (try (have uy : (qr == qq) = false:=by simpa using c25))
      (try (have qaz : ¬ (qr = qq):=by simpa using c25))
      clear c25
      obtain rfl:=Option.some.inj H
      go_wp2
      go_ret
      exact ⟨by first|rfl|(simp [errW_none,errW_some] <;> rfl)|(simp [*,errW_none,errW_some] <;> rfl),by repeat (first|(with_reducible first|exact HB.out|apply below_alloc|apply pw_below_drewN|apply below_drew1|refine below_set ?_ qy.out)|exact HB.out)⟩
     rw [if_pos c25] at H
     have ja : (qr == qq) = true:=c25
     (try (have uz : decide (qr = qq) = true:=by simpa using c25))
     (try (have uy : (qr == qq) = true:=by simpa using c25))
     clear c25
     replace H:=Option.bind_eq_some_iff.mp H
     obtain ⟨ww,je,H⟩:=H
     replace H : (some ww) = some r:=H
     have A26:=Aside0.mk je
     clear je
     obtain rfl:=Option.some.inj H
     obtain ⟨qbs,qbi,qal⟩:=Kd.V_slice HO_8.out
     subst qal
     obtain ⟨qbr,qbh,qak⟩:=Kd.R_slice HO_6.out
     subst qak
     go_wp2_with (first|(go_at_call 42;(with_reducible refine (laws_lbSeals.calls kj5 _ _ qu _ _ qv ww _ ?side1 ?side2 ?side3 ?side4 A26.out).mono ?_);(case side1=>repeat (first|exact (Kd.V_reads' HO_8.out).2.2|(with_reducible refine Kd.C_alloc ?_ _)|(with_reducible refine Kd.C_drewN ?_ _)|(with_reducible refine Kd.C_drew ?_)));(case side2=>exact (Kd.V_reads' HO_8.out).2.1);(case side3=>repeat (first|exact (Kd.R_reads' HO_6.out).2.2|(with_reducible refine Kd.C_alloc ?_ _)|(with_reducible refine Kd.C_drewN ?_ _)|(with_reducible refine Kd.C_drew ?_)));(case side4=>exact (Kd.R_reads' HO_6.out).2.1);rintro e w' ⟨rfl,⟨nd,rfl⟩⟩))
     go_ret
     exact ⟨by first|rfl|(simp [errW_none,errW_some] <;> rfl)|(simp [*,errW_none,errW_some] <;> rfl),by repeat (first|(with_reducible first|exact HB.out|apply below_alloc|apply pw_below_drewN|apply below_drew1|refine below_set ?_ qy.out)|exact HB.out)⟩
    ·replace c24:=Bool.eq_false_iff.mpr c24
     subst c24
     rw [if_neg (show ¬ (false = true) by decide)] at H
     replace H:=Option.bind_eq_some_iff.mp H
     obtain ⟨⟨wt,ut⟩,jd,H⟩:=H
     replace H : (if ut = true then ((laws_lbSeals.f kj5 wt (([(⟨qf,qg,qh,wrap64 ((wrap64 (qm + 3)) + 1),qj,qk,ql⟩ : S41)] : List (S41)))).bind fun wg=>(some wg)) else (some false)) = some r:=H
     have A29:=Aside0.mk jd
     clear jd
     by_cases c30 : ut = true
     rotate_left
     ·replace c30:=Bool.eq_false_iff.mpr c30
      subst c30
      rw [if_neg (show ¬ (false = true) by decide)] at H
      obtain rfl:=Option.some.inj H
      have pg : wc.cell? ⟨qc,0,none⟩ = some (.int .i64 qf):=(blk_cell qb.out 0).trans rfl
      have pf : wc.cell? ⟨qc,1,none⟩ = some (.int .i64 qg):=(blk_cell qb.out 1).trans rfl
      have pe : wc.cell? ⟨qc,2,none⟩ = some (.int .i64 qh):=(blk_cell qb.out 2).trans rfl
      have pd : wc.cell? ⟨qc,3,none⟩ = some (.int .i64 qn):=(blk_cell qb.out 3).trans rfl
      have pc : wc.cell? ⟨qc,4,none⟩ = some (.int .i64 qj):=(blk_cell qb.out 4).trans rfl
      have pb : wc.cell? ⟨qc,5,none⟩ = some (.int .i64 qk):=(blk_cell qb.out 5).trans rfl
      have pa : wc.cell? ⟨qc,6,none⟩ = some (.int .i64 ql):=(blk_cell qb.out 6).trans rfl
      have ju:=blk_frozen qb.out 0
      have jt:=blk_frozen qb.out 1
      have js:=blk_frozen qb.out 2
      have jr:=blk_frozen qb.out 3
      have jq:=blk_frozen qb.out 4
      have jp:=blk_frozen qb.out 5
      have jo:=blk_frozen qb.out 6
      go_wp2_with (first|((with_reducible refine gate_dst (N:=11) rfl ?_);refine box_event ?hg (N:=11) ?hd (cs:=#[.int .i64 0,.int .i64 0,.int .i64 0,.int .i64 0,.int .i64 0,.int .i64 0,.int .i64 0]) (t:=41) ?hr ?_;(case hd=>rfl);(case hg=>rfl);(case hr=>first|(go_simp;done)|(go_simp;rfl));intro qd hg w44 hbox hb;have n0_:=Aside0.mk (Kd.R_below (Kd.R_elderB z61x15 qd (Nat.le_of_eq hg.symm)) hb);have n1_:=Aside0.mk (Kd.V_below (Kd.V_elderB z61x16 qd (Nat.le_of_eq hg.symm)) hb);have n2_:=Aside0.mk (blk_below (g:=qc) (o:=.cells #[.int .i64 qf,.int .i64 qg,.int .i64 qh,.int .i64 qn,.int .i64 qj,.int .i64 qk,.int .i64 ql] 41 (0,0)) z61x13 hb);have n3_:=Aside0.mk (below_step z61x10 hb);have n4_:=Aside0.mk (hbox);have n5_:=Aside0.mk ((z61x9 : w.heap.size ≤ qd));have n6_:=Aside0.mk ((z61x9 : w.heap.size ≤ qd));have n7_:=Aside0.mk ((z61x7 : qc ≠ qd));have n8_:=Aside0.mk ((z61x6 : qd ≠ qc));clear HO_6;clear HO_8;clear qb;clear HB;have HO_6:=n0_;have HO_8:=n1_;have qb:=n2_;have HB:=n3_;have qe:=n4_;have jb:=n5_;have ws:=n6_;have qp:=n7_;have qz:=n8_;clear n0_ n1_ n2_ n3_ n4_ n5_ n6_ n7_ n8_;clear hb hbox hg;have qax:=qz.out;have qav:=qp.out;have gz : w44.cell? ⟨qd,0,none⟩ = some (.int .i64 0):=(blk_cell qe.out 0).trans rfl;have gy : w44.cell? ⟨qd,1,none⟩ = some (.int .i64 0):=(blk_cell qe.out 1).trans rfl;have gx : w44.cell? ⟨qd,2,none⟩ = some (.int .i64 0):=(blk_cell qe.out 2).trans rfl;have gw : w44.cell? ⟨qd,3,none⟩ = some (.int .i64 0):=(blk_cell qe.out 3).trans rfl;have gv : w44.cell? ⟨qd,4,none⟩ = some (.int .i64 0):=(blk_cell qe.out 4).trans rfl;have gu : w44.cell? ⟨qd,5,none⟩ = some (.int .i64 0):=(blk_cell qe.out 5).trans rfl;have gt : w44.cell? ⟨qd,6,none⟩ = some (.int .i64 0):=(blk_cell qe.out 6).trans rfl;have jn:=blk_frozen qe.out 0;have jm:=blk_frozen qe.out 1;have jl:=blk_frozen qe.out 2;have jk:=blk_frozen qe.out 3;have jj:=blk_frozen qe.out 4;have ji:=blk_frozen qe.out 5;have jh:=blk_frozen qe.out 6;obtain ⟨qat,uu,qag⟩:=Kd.V_slice HO_8.out;subst qag)|((with_reducible refine gate_store (t:=41) (p:=11) rfl ?_);refine store_event (t:=41) (p:=11) (v:=.tmp 67) (w1:=(((((((w44.setCell ⟨qd,0,none⟩ (.int .i64 qf)).setCell ⟨qd,1,none⟩ (.int .i64 qg)).setCell ⟨qd,2,none⟩ (.int .i64 qh)).setCell ⟨qd,3,none⟩ (.int .i64 qn)).setCell ⟨qd,4,none⟩ (.int .i64 qj)).setCell ⟨qd,5,none⟩ (.int .i64 qk)).setCell ⟨qd,6,none⟩ (.int .i64 ql))) ?hg ?ho ?hn ?hr ?_;(case ho=>rfl);(case hg=>rfl);(case hn=>rfl);(case hr=>first|(go_simp;done)|(go_simp;rfl));intro w45 hw;replace hw : w45 = setSeal w44 qd qf qg qh qn qj qk ql:=hw;have mr0:=Aside0.mk (Kd.R_step HO_6.out (w1:=w45) (fun k hk _=>by rw [hw];exact setSeal_far hk.2));have mv0:=Aside0.mk (V_stepX HO_8.out (W1:=w45) (fun k hk _=>by rw [hw];exact setSeal_far hk.2));have mq:=Aside0.mk (show w45.heap[qc]? = some (.cells #[.int .i64 qf,.int .i64 qg,.int .i64 qh,.int .i64 qn,.int .i64 qj,.int .i64 qk,.int .i64 ql] 41 (0,0)) from by rw [hw];exact (setSeal_far qp.out).trans qb.out);have mb:=Aside0.mk (show Below w.heap.size w w45 from by rw [hw];exact setSeal_below HB.out jb.out);have me:=Aside0.mk (show w45.heap[qd]? = some (.cells #[.int .i64 qf,.int .i64 qg,.int .i64 qh,.int .i64 qn,.int .i64 qj,.int .i64 qk,.int .i64 ql] 41 (0,0)) from by rw [hw];exact setSeal_blk qe.out);clear hw gz gy gx gw gv gu gt jn jm jl jk jj ji jh;clear HO_6;have HO_6:=mr0;clear mr0;clear HO_8;have HO_8:=mv0;clear mv0;clear qb;have qb:=mq;clear mq;clear HB;have HB:=mb;clear mb;clear qe;have qe:=me;clear me;have gz : w45.cell? ⟨qd,0,none⟩ = some (.int .i64 qf):=(blk_cell qe.out 0).trans rfl;have gy : w45.cell? ⟨qd,1,none⟩ = some (.int .i64 qg):=(blk_cell qe.out 1).trans rfl;have gx : w45.cell? ⟨qd,2,none⟩ = some (.int .i64 qh):=(blk_cell qe.out 2).trans rfl;have gw : w45.cell? ⟨qd,3,none⟩ = some (.int .i64 qn):=(blk_cell qe.out 3).trans rfl;have gv : w45.cell? ⟨qd,4,none⟩ = some (.int .i64 qj):=(blk_cell qe.out 4).trans rfl;have gu : w45.cell? ⟨qd,5,none⟩ = some (.int .i64 qk):=(blk_cell qe.out 5).trans rfl;have gt : w45.cell? ⟨qd,6,none⟩ = some (.int .i64 ql):=(blk_cell qe.out 6).trans rfl;have jn:=blk_frozen qe.out 0;have jm:=blk_frozen qe.out 1;have jl:=blk_frozen qe.out 2;have jk:=blk_frozen qe.out 3;have jj:=blk_frozen qe.out 4;have ji:=blk_frozen qe.out 5;have jh:=blk_frozen qe.out 6)|((with_reducible refine gate_store (t:=3) (p:=69) rfl ?_);refine store_event (t:=3) (p:=69) (v:=.tmp 68) (w1:=w45.setCell ⟨qd,3,none⟩ (.int .i64 (wrap64 ((wrap64 (qm + 3)) + 1)))) ?hg ?ho ?hn ?hr ?_;(case ho=>rfl);(case hg=>rfl);(case hn=>rfl);(case hr=>first|(go_simp;done)|(go_simp;rfl));intro w46 hw;have mr0:=Aside0.mk (Kd.R_step HO_6.out (w1:=w46) (fun k hk _=>by rw [hw];exact Below.heap_setCell _ _ _ _ hk.2));have mv0:=Aside0.mk (V_stepX HO_8.out (W1:=w46) (fun k hk _=>by rw [hw];exact Below.heap_setCell _ _ _ _ hk.2));have mq:=Aside0.mk (show w46.heap[qc]? = some (.cells #[.int .i64 qf,.int .i64 qg,.int .i64 qh,.int .i64 qn,.int .i64 qj,.int .i64 qk,.int .i64 ql] 41 (0,0)) from by rw [hw];exact (Below.heap_setCell _ _ _ _ qp.out).trans qb.out);have mb:=Aside0.mk (show Below w.heap.size w w46 from by rw [hw];exact below_set HB.out jb.out);have me:=Aside0.mk (show w46.heap[qd]? = some (.cells #[.int .i64 qf,.int .i64 qg,.int .i64 qh,.int .i64 (wrap64 ((wrap64 (qm + 3)) + 1)),.int .i64 qj,.int .i64 qk,.int .i64 ql] 41 (0,0)) from by rw [hw];exact blk_put qe.out 3 _ rfl);clear hw gz gy gx gw gv gu gt jn jm jl jk jj ji jh;clear HO_6;have HO_6:=mr0;clear mr0;clear HO_8;have HO_8:=mv0;clear mv0;clear qb;have qb:=mq;clear mq;clear HB;have HB:=mb;clear mb;clear qe;have qe:=me;clear me;have gz : w46.cell? ⟨qd,0,none⟩ = some (.int .i64 qf):=(blk_cell qe.out 0).trans rfl;have gy : w46.cell? ⟨qd,1,none⟩ = some (.int .i64 qg):=(blk_cell qe.out 1).trans rfl;have gx : w46.cell? ⟨qd,2,none⟩ = some (.int .i64 qh):=(blk_cell qe.out 2).trans rfl;have gw : w46.cell? ⟨qd,3,none⟩ = some (.int .i64 (wrap64 ((wrap64 (qm + 3)) + 1))):=(blk_cell qe.out 3).trans rfl;have gv : w46.cell? ⟨qd,4,none⟩ = some (.int .i64 qj):=(blk_cell qe.out 4).trans rfl;have gu : w46.cell? ⟨qd,5,none⟩ = some (.int .i64 qk):=(blk_cell qe.out 5).trans rfl;have gt : w46.cell? ⟨qd,6,none⟩ = some (.int .i64 ql):=(blk_cell qe.out 6).trans rfl;have jn:=blk_frozen qe.out 0;have jm:=blk_frozen qe.out 1;have jl:=blk_frozen qe.out 2;have jk:=blk_frozen qe.out 3;have jj:=blk_frozen qe.out 4;have ji:=blk_frozen qe.out 5;have jh:=blk_frozen qe.out 6)|((with_reducible refine gate_callee (f:=41) rfl ?_);refine goesL_ (some 74) rfl rfl Try.func41 (by kernel_rfl) rfl #[.slice qat qu.length uu,.agg #[.int .i64 qf,.int .i64 qg,.int .i64 qh,.int .i64 (wrap64 ((wrap64 (qm + 3)) + 1)),.int .i64 qj,.int .i64 qk,.int .i64 ql],.int .i64 (wrap64 ((wrap64 (qm + 3)) + 1))] rfl z61x11 ?_;(with_reducible refine (impl_CacheWith.calls kj5 _ _ qu qf qg qh (wrap64 ((wrap64 (qm + 3)) + 1)) qj qk ql (wrap64 ((wrap64 (qm + 3)) + 1)) wt false _ ?side1 ?side2 A29.out).mono ?_);(case side1=>refine (Kd.V_reads' (e:=41) (base:=w.heap.size) (ok:=fun k_=>((some k_ ≠ (wj : Value).ownBlock ∧ k_ ≠ qc) ∧ k_ ≠ qd)) (n:=qu.length) (c:=uu) ?_).2.2;exact z61x16);(case side2=>exact (Kd.V_reads' HO_8.out).2.1);rintro e w48 ⟨qae,rfl,ho0,hb⟩; refine ⟨_,rfl,?_⟩; have n0_:=Aside0.mk (Kd.R_below z61x15 hb);have n1_:=Aside0.mk (Kd.V_below z61x16 hb);have n2_:=Aside0.mk (Kd.V_lower (Kd.V_mono (ok':=fun k_=>some k_ ≠ (wj : Value).ownBlock ∧ k_ ≠ qc ∧ k_ ≠ qd) ho0 (fun k_ hk_=>⟨(Kd.fresh' (Kd.R_lt z61x15) k_ hk_),(Kd.freshB (g:=qc) (o:=.cells #[.int .i64 qf,.int .i64 qg,.int .i64 qh,.int .i64 qn,.int .i64 qj,.int .i64 qk,.int .i64 ql] 41 (0,0)) z61x13 k_ hk_),(Kd.freshB (g:=qd) (o:=.cells #[.int .i64 qf,.int .i64 qg,.int .i64 qh,.int .i64 (wrap64 ((wrap64 (qm + 3)) + 1)),.int .i64 qj,.int .i64 qk,.int .i64 ql] 41 (0,0)) (by (with_reducible repeat (first|refine blk_drewN ?_ _|refine blk_drew ?_|refine blk_alloc ?_ _));exact qe.out) k_ hk_)⟩)) (below_size z61x12));have n3_:=Aside0.mk (blk_below (g:=qc) (o:=.cells #[.int .i64 qf,.int .i64 qg,.int .i64 qh,.int .i64 qn,.int .i64 qj,.int .i64 qk,.int .i64 ql] 41 (0,0)) z61x13 hb);have n4_:=Aside0.mk (blk_below (g:=qd) (o:=.cells #[.int .i64 qf,.int .i64 qg,.int .i64 qh,.int .i64 (wrap64 ((wrap64 (qm + 3)) + 1)),.int .i64 qj,.int .i64 qk,.int .i64 ql] 41 (0,0)) (by (with_reducible repeat (first|refine blk_drewN ?_ _|refine blk_drew ?_|refine blk_alloc ?_ _));exact qe.out) hb);have n5_:=Aside0.mk (below_step z61x12 hb);clear HO_6;clear HO_8;clear qb;clear qe;clear HB;have HO_6:=n0_;have HO_8:=n1_;have wb:=n2_;have qb:=n3_;have qe:=n4_;have HB:=n5_;clear n0_ n1_ n2_ n3_ n4_ n5_;(try clear hb);(try clear hb2);(try clear hk);(try clear hi);(try clear ho0)))
      go_ret
      exact ⟨by first|rfl|(simp [errW_none,errW_some] <;> rfl)|(simp [*,errW_none,errW_some] <;> rfl),by repeat (first|(with_reducible first|exact HB.out|apply below_alloc|apply pw_below_drewN|apply below_drew1|refine below_set ?_ qy.out|refine below_set ?_ ws.out)|exact HB.out)⟩
     subst c30
     rw [if_pos rfl] at H
     obtain ⟨us,wh⟩ : ∃ y_ : List (S41),y_ = (([(⟨qf,qg,qh,wrap64 ((wrap64 (qm + 3)) + 1),qj,qk,ql⟩ : S41)] : List (S41))):=⟨_,rfl⟩
     replace H : ((laws_lbSeals.f kj5 wt us).bind fun wg=>(some wg)) = some r:=by first|(rw [wh];with_reducible exact H)|(have H2_:=(Option.bind_some _ _).symm.trans H;rw [wh];with_reducible exact H2_)|(have H2_:=(Option.bind_some _ _).symm.trans H;with_reducible exact H2_)|with_reducible exact H|(rw [wh];exact H)|exact H
     have ub:=Aside0.mk wh
     clear wh
     replace H:=Option.bind_eq_some_iff.mp H
     obtain ⟨wg,jc,H⟩:=H
     replace H : (some wg) = some r:=H
     have A31:=Aside0.mk jc
     clear jc
     obtain rfl:=Option.some.inj H
     have qad : wc.cell? ⟨qc,0,none⟩ = some (.int .i64 qf):=(blk_cell qb.out 0).trans rfl
     have qac : wc.cell? ⟨qc,1,none⟩ = some (.int .i64 qg):=(blk_cell qb.out 1).trans rfl
     have qab : wc.cell? ⟨qc,2,none⟩ = some (.int .i64 qh):=(blk_cell qb.out 2).trans rfl
     have qaa : wc.cell? ⟨qc,3,none⟩ = some (.int .i64 qn):=(blk_cell qb.out 3).trans rfl
     have pz : wc.cell? ⟨qc,4,none⟩ = some (.int .i64 qj):=(blk_cell qb.out 4).trans rfl
     have px : wc.cell? ⟨qc,5,none⟩ = some (.int .i64 qk):=(blk_cell qb.out 5).trans rfl
     have pw : wc.cell? ⟨qc,6,none⟩ = some (.int .i64 ql):=(blk_cell qb.out 6).trans rfl
     have gs:=blk_frozen qb.out 0
     have gr:=blk_frozen qb.out 1
     have gq:=blk_frozen qb.out 2
     have gp:=blk_frozen qb.out 3
     have gn:=blk_frozen qb.out 4
     have gm:=blk_frozen qb.out 5
     have gl:=blk_frozen qb.out 6
     go_wp2_with (first|((with_reducible refine gate_dst (N:=11) rfl ?_);refine box_event ?hg (N:=11) ?hd (cs:=#[.int .i64 0,.int .i64 0,.int .i64 0,.int .i64 0,.int .i64 0,.int .i64 0,.int .i64 0]) (t:=41) ?hr ?_;(case hd=>rfl);(case hg=>rfl);(case hr=>first|(go_simp;done)|(go_simp;rfl));intro qd hg w33 hbox hb;have n0_:=Aside0.mk (Kd.R_below (Kd.R_elderB z61x15 qd (Nat.le_of_eq hg.symm)) hb);have n1_:=Aside0.mk (Kd.V_below (Kd.V_elderB z61x16 qd (Nat.le_of_eq hg.symm)) hb);have n2_:=Aside0.mk (blk_below (g:=qc) (o:=.cells #[.int .i64 qf,.int .i64 qg,.int .i64 qh,.int .i64 qn,.int .i64 qj,.int .i64 qk,.int .i64 ql] 41 (0,0)) z61x13 hb);have n3_:=Aside0.mk (below_step z61x10 hb);have n4_:=Aside0.mk (hbox);have n5_:=Aside0.mk ((z61x9 : w.heap.size ≤ qd));have n6_:=Aside0.mk ((z61x9 : w.heap.size ≤ qd));have n7_:=Aside0.mk ((z61x7 : qc ≠ qd));have n8_:=Aside0.mk ((z61x6 : qd ≠ qc));clear HO_6;clear HO_8;clear qb;clear HB;have HO_6:=n0_;have HO_8:=n1_;have qb:=n2_;have HB:=n3_;have qe:=n4_;have jb:=n5_;have ws:=n6_;have qp:=n7_;have qz:=n8_;clear n0_ n1_ n2_ n3_ n4_ n5_ n6_ n7_ n8_;clear hb hbox hg;have qay:=qz.out;have qaw:=qp.out;have pv : w33.cell? ⟨qd,0,none⟩ = some (.int .i64 0):=(blk_cell qe.out 0).trans rfl;have pu : w33.cell? ⟨qd,1,none⟩ = some (.int .i64 0):=(blk_cell qe.out 1).trans rfl;have pt : w33.cell? ⟨qd,2,none⟩ = some (.int .i64 0):=(blk_cell qe.out 2).trans rfl;have pr : w33.cell? ⟨qd,3,none⟩ = some (.int .i64 0):=(blk_cell qe.out 3).trans rfl;have pq : w33.cell? ⟨qd,4,none⟩ = some (.int .i64 0):=(blk_cell qe.out 4).trans rfl;have pp : w33.cell? ⟨qd,5,none⟩ = some (.int .i64 0):=(blk_cell qe.out 5).trans rfl;have po : w33.cell? ⟨qd,6,none⟩ = some (.int .i64 0):=(blk_cell qe.out 6).trans rfl;have gk:=blk_frozen qe.out 0;have gj:=blk_frozen qe.out 1;have gi:=blk_frozen qe.out 2;have gh:=blk_frozen qe.out 3;have gg:=blk_frozen qe.out 4;have gf:=blk_frozen qe.out 5;have gc:=blk_frozen qe.out 6;obtain ⟨qau,uv,qaj⟩:=Kd.V_slice HO_8.out;subst qaj)|((with_reducible refine gate_store (t:=41) (p:=11) rfl ?_);refine store_event (t:=41) (p:=11) (v:=.tmp 67) (w1:=(((((((w33.setCell ⟨qd,0,none⟩ (.int .i64 qf)).setCell ⟨qd,1,none⟩ (.int .i64 qg)).setCell ⟨qd,2,none⟩ (.int .i64 qh)).setCell ⟨qd,3,none⟩ (.int .i64 qn)).setCell ⟨qd,4,none⟩ (.int .i64 qj)).setCell ⟨qd,5,none⟩ (.int .i64 qk)).setCell ⟨qd,6,none⟩ (.int .i64 ql))) ?hg ?ho ?hn ?hr ?_;(case ho=>rfl);(case hg=>rfl);(case hn=>rfl);(case hr=>first|(go_simp;done)|(go_simp;rfl));intro w45 hw;replace hw : w45 = setSeal w33 qd qf qg qh qn qj qk ql:=hw;have mr0:=Aside0.mk (Kd.R_step HO_6.out (w1:=w45) (fun k hk _=>by rw [hw];exact setSeal_far hk.2));have mv0:=Aside0.mk (V_stepX HO_8.out (W1:=w45) (fun k hk _=>by rw [hw];exact setSeal_far hk.2));have mq:=Aside0.mk (show w45.heap[qc]? = some (.cells #[.int .i64 qf,.int .i64 qg,.int .i64 qh,.int .i64 qn,.int .i64 qj,.int .i64 qk,.int .i64 ql] 41 (0,0)) from by rw [hw];exact (setSeal_far qp.out).trans qb.out);have mb:=Aside0.mk (show Below w.heap.size w w45 from by rw [hw];exact setSeal_below HB.out jb.out);have me:=Aside0.mk (show w45.heap[qd]? = some (.cells #[.int .i64 qf,.int .i64 qg,.int .i64 qh,.int .i64 qn,.int .i64 qj,.int .i64 qk,.int .i64 ql] 41 (0,0)) from by rw [hw];exact setSeal_blk qe.out);clear hw pv pu pt pr pq pp po gk gj gi gh gg gf gc;clear HO_6;have HO_6:=mr0;clear mr0;clear HO_8;have HO_8:=mv0;clear mv0;clear qb;have qb:=mq;clear mq;clear HB;have HB:=mb;clear mb;clear qe;have qe:=me;clear me;have pv : w45.cell? ⟨qd,0,none⟩ = some (.int .i64 qf):=(blk_cell qe.out 0).trans rfl;have pu : w45.cell? ⟨qd,1,none⟩ = some (.int .i64 qg):=(blk_cell qe.out 1).trans rfl;have pt : w45.cell? ⟨qd,2,none⟩ = some (.int .i64 qh):=(blk_cell qe.out 2).trans rfl;have pr : w45.cell? ⟨qd,3,none⟩ = some (.int .i64 qn):=(blk_cell qe.out 3).trans rfl;have pq : w45.cell? ⟨qd,4,none⟩ = some (.int .i64 qj):=(blk_cell qe.out 4).trans rfl;have pp : w45.cell? ⟨qd,5,none⟩ = some (.int .i64 qk):=(blk_cell qe.out 5).trans rfl;have po : w45.cell? ⟨qd,6,none⟩ = some (.int .i64 ql):=(blk_cell qe.out 6).trans rfl;have gk:=blk_frozen qe.out 0;have gj:=blk_frozen qe.out 1;have gi:=blk_frozen qe.out 2;have gh:=blk_frozen qe.out 3;have gg:=blk_frozen qe.out 4;have gf:=blk_frozen qe.out 5;have gc:=blk_frozen qe.out 6)|((with_reducible refine gate_store (t:=3) (p:=69) rfl ?_);refine store_event (t:=3) (p:=69) (v:=.tmp 68) (w1:=w45.setCell ⟨qd,3,none⟩ (.int .i64 (wrap64 ((wrap64 (qm + 3)) + 1)))) ?hg ?ho ?hn ?hr ?_;(case ho=>rfl);(case hg=>rfl);(case hn=>rfl);(case hr=>first|(go_simp;done)|(go_simp;rfl));intro w46 hw;have mr0:=Aside0.mk (Kd.R_step HO_6.out (w1:=w46) (fun k hk _=>by rw [hw];exact Below.heap_setCell _ _ _ _ hk.2));have mv0:=Aside0.mk (V_stepX HO_8.out (W1:=w46) (fun k hk _=>by rw [hw];exact Below.heap_setCell _ _ _ _ hk.2));have mq:=Aside0.mk (show w46.heap[qc]? = some (.cells #[.int .i64 qf,.int .i64 qg,.int .i64 qh,.int .i64 qn,.int .i64 qj,.int .i64 qk,.int .i64 ql] 41 (0,0)) from by rw [hw];exact (Below.heap_setCell _ _ _ _ qp.out).trans qb.out);have mb:=Aside0.mk (show Below w.heap.size w w46 from by rw [hw];exact below_set HB.out jb.out);have me:=Aside0.mk (show w46.heap[qd]? = some (.cells #[.int .i64 qf,.int .i64 qg,.int .i64 qh,.int .i64 (wrap64 ((wrap64 (qm + 3)) + 1)),.int .i64 qj,.int .i64 qk,.int .i64 ql] 41 (0,0)) from by rw [hw];exact blk_put qe.out 3 _ rfl);clear hw pv pu pt pr pq pp po gk gj gi gh gg gf gc;clear HO_6;have HO_6:=mr0;clear mr0;clear HO_8;have HO_8:=mv0;clear mv0;clear qb;have qb:=mq;clear mq;clear HB;have HB:=mb;clear mb;clear qe;have qe:=me;clear me;have pv : w46.cell? ⟨qd,0,none⟩ = some (.int .i64 qf):=(blk_cell qe.out 0).trans rfl;have pu : w46.cell? ⟨qd,1,none⟩ = some (.int .i64 qg):=(blk_cell qe.out 1).trans rfl;have pt : w46.cell? ⟨qd,2,none⟩ = some (.int .i64 qh):=(blk_cell qe.out 2).trans rfl;have pr : w46.cell? ⟨qd,3,none⟩ = some (.int .i64 (wrap64 ((wrap64 (qm + 3)) + 1))):=(blk_cell qe.out 3).trans rfl;have pq : w46.cell? ⟨qd,4,none⟩ = some (.int .i64 qj):=(blk_cell qe.out 4).trans rfl;have pp : w46.cell? ⟨qd,5,none⟩ = some (.int .i64 qk):=(blk_cell qe.out 5).trans rfl;have po : w46.cell? ⟨qd,6,none⟩ = some (.int .i64 ql):=(blk_cell qe.out 6).trans rfl;have gk:=blk_frozen qe.out 0;have gj:=blk_frozen qe.out 1;have gi:=blk_frozen qe.out 2;have gh:=blk_frozen qe.out 3;have gg:=blk_frozen qe.out 4;have gf:=blk_frozen qe.out 5;have gc:=blk_frozen qe.out 6)|((with_reducible refine gate_callee (f:=41) rfl ?_);refine goesL_ (some 74) rfl rfl Try.func41 (by kernel_rfl) rfl #[.slice qau qu.length uv,.agg #[.int .i64 qf,.int .i64 qg,.int .i64 qh,.int .i64 (wrap64 ((wrap64 (qm + 3)) + 1)),.int .i64 qj,.int .i64 qk,.int .i64 ql],.int .i64 (wrap64 ((wrap64 (qm + 3)) + 1))] rfl z61x11 ?_;(with_reducible refine (impl_CacheWith.calls kj5 _ _ qu qf qg qh (wrap64 ((wrap64 (qm + 3)) + 1)) qj qk ql (wrap64 ((wrap64 (qm + 3)) + 1)) wt true _ ?side1 ?side2 A29.out).mono ?_);(case side1=>refine (Kd.V_reads' (e:=41) (base:=w.heap.size) (ok:=fun k_=>((some k_ ≠ (wj : Value).ownBlock ∧ k_ ≠ qc) ∧ k_ ≠ qd)) (n:=qu.length) (c:=uv) ?_).2.2;exact z61x16);(case side2=>exact (Kd.V_reads' HO_8.out).2.1);rintro e w37 ⟨qae,rfl,ho0,hb⟩; refine ⟨_,rfl,?_⟩; have n0_:=Aside0.mk (Kd.R_below z61x15 hb);have n1_:=Aside0.mk (Kd.V_below z61x16 hb);have n2_:=Aside0.mk (Kd.V_lower (Kd.V_mono (ok':=fun k_=>some k_ ≠ (wj : Value).ownBlock ∧ k_ ≠ qc ∧ k_ ≠ qd) ho0 (fun k_ hk_=>⟨(Kd.fresh' (Kd.R_lt z61x15) k_ hk_),(Kd.freshB (g:=qc) (o:=.cells #[.int .i64 qf,.int .i64 qg,.int .i64 qh,.int .i64 qn,.int .i64 qj,.int .i64 qk,.int .i64 ql] 41 (0,0)) z61x13 k_ hk_),(Kd.freshB (g:=qd) (o:=.cells #[.int .i64 qf,.int .i64 qg,.int .i64 qh,.int .i64 (wrap64 ((wrap64 (qm + 3)) + 1)),.int .i64 qj,.int .i64 qk,.int .i64 ql] 41 (0,0)) (by (with_reducible repeat (first|refine blk_drewN ?_ _|refine blk_drew ?_|refine blk_alloc ?_ _));exact qe.out) k_ hk_)⟩)) (below_size z61x12));have n3_:=Aside0.mk (blk_below (g:=qc) (o:=.cells #[.int .i64 qf,.int .i64 qg,.int .i64 qh,.int .i64 qn,.int .i64 qj,.int .i64 qk,.int .i64 ql] 41 (0,0)) z61x13 hb);have n4_:=Aside0.mk (blk_below (g:=qd) (o:=.cells #[.int .i64 qf,.int .i64 qg,.int .i64 qh,.int .i64 (wrap64 ((wrap64 (qm + 3)) + 1)),.int .i64 qj,.int .i64 qk,.int .i64 ql] 41 (0,0)) (by (with_reducible repeat (first|refine blk_drewN ?_ _|refine blk_drew ?_|refine blk_alloc ?_ _));exact qe.out) hb);have n5_:=Aside0.mk (below_step z61x12 hb);clear HO_6;clear HO_8;clear qb;clear qe;clear HB;have HO_6:=n0_;have HO_8:=n1_;have wb:=n2_;have qb:=n3_;have qe:=n4_;have HB:=n5_;clear n0_ n1_ n2_ n3_ n4_ n5_;(try clear hb);(try clear hb2);(try clear hk);(try clear hi);(try clear ho0);have pn : w37.cell? ⟨qd,0,none⟩ = some (.int .i64 qf):=(blk_cell qe.out 0).trans rfl;have pm : w37.cell? ⟨qd,1,none⟩ = some (.int .i64 qg):=(blk_cell qe.out 1).trans rfl;have pl : w37.cell? ⟨qd,2,none⟩ = some (.int .i64 qh):=(blk_cell qe.out 2).trans rfl;have pk : w37.cell? ⟨qd,3,none⟩ = some (.int .i64 (wrap64 ((wrap64 (qm + 3)) + 1))):=(blk_cell qe.out 3).trans rfl;have pj : w37.cell? ⟨qd,4,none⟩ = some (.int .i64 qj):=(blk_cell qe.out 4).trans rfl;have pi : w37.cell? ⟨qd,5,none⟩ = some (.int .i64 qk):=(blk_cell qe.out 5).trans rfl;have ph : w37.cell? ⟨qd,6,none⟩ = some (.int .i64 ql):=(blk_cell qe.out 6).trans rfl;have gb:=blk_frozen qe.out 0;have ga:=blk_frozen qe.out 1;have jz:=blk_frozen qe.out 2;have jy:=blk_frozen qe.out 3;have jx:=blk_frozen qe.out 4;have jw:=blk_frozen qe.out 5;have jv:=blk_frozen qe.out 6)|((with_reducible refine gate_dst (N:=81) rfl ?_);refine ungate ?hw ?_;(case hw=>first|rfl|(go_simp;done)|(go_simp;rfl));refine Kd.R_lit k41 _ 41 ?hg (N:=81) ?hd (xs:=([(⟨qf,qg,qh,wrap64 ((wrap64 (qm + 3)) + 1),qj,qk,ql⟩ : S41)] : List (S41))) (inner:=[.int .i64 qf,.int .i64 qg,.int .i64 qh,.int .i64 (wrap64 ((wrap64 (qm + 3)) + 1)),.int .i64 qj,.int .i64 qk,.int .i64 ql]) (ok:=fun _=>True) (okp:=fun _=>True) ?hr ?hp (fun _ hk=>hk) trivial (Below.refl _ _) (Nat.le_refl _) (by simp) ?_;(case hd=>rfl);(case hg=>rfl);(case hr=>first|(go_simp;done)|(go_simp;rfl));(case hp=>exact (Reps.c7 (show Kd.M k41 _ _ _ (⟨qf,qg,qh,wrap64 ((wrap64 (qm + 3)) + 1),qj,qk,ql⟩ : S41) [.int .i64 qf,.int .i64 qg,.int .i64 qh,.int .i64 (wrap64 ((wrap64 (qm + 3)) + 1)),.int .i64 qj,.int .i64 qk,.int .i64 ql] from (k41_mkM _ _ _ (⟨qf,qg,qh,wrap64 ((wrap64 (qm + 3)) + 1),qj,qk,ql⟩ : S41) )) (Reps.none _ _)));intro qbc w39 wi hb hg_ hnew_;clear hg_ hnew_;(first|rw [← ub.out] at wi|(simp only [Int.reduceToNat] at wi;rw [← ub.out] at wi));have n0_:=Aside0.mk (Kd.R_elder' z61x15 (Kd.R_base wi) hb);have n1_:=Aside0.mk (Kd.V_elder' z61x16 (Kd.R_base wi) hb);have n2_:=Aside0.mk (Kd.V_elder' (by (with_reducible repeat (first|apply Kd.V_alloc|apply Kd.V_drewN|apply Kd.V_drew));exact wb.out) (Kd.R_base wi) hb);have n3_:=Aside0.mk (Kd.R_lower (Kd.R_newB (Kd.R_newB (Kd.R_new' wi (Kd.R_lt z61x15)) (g:=qc) (o:=.cells #[.int .i64 qf,.int .i64 qg,.int .i64 qh,.int .i64 qn,.int .i64 qj,.int .i64 qk,.int .i64 ql] 41 (0,0)) z61x13) (g:=qd) (o:=.cells #[.int .i64 qf,.int .i64 qg,.int .i64 qh,.int .i64 (wrap64 ((wrap64 (qm + 3)) + 1)),.int .i64 qj,.int .i64 qk,.int .i64 ql] 41 (0,0)) (by (with_reducible repeat (first|refine blk_drewN ?_ _|refine blk_drew ?_|refine blk_alloc ?_ _));exact qe.out)) (below_size z61x12));have n4_:=Aside0.mk (blk_below (g:=qc) (o:=.cells #[.int .i64 qf,.int .i64 qg,.int .i64 qh,.int .i64 qn,.int .i64 qj,.int .i64 qk,.int .i64 ql] 41 (0,0)) z61x13 hb);have n5_:=Aside0.mk (blk_below (g:=qd) (o:=.cells #[.int .i64 qf,.int .i64 qg,.int .i64 qh,.int .i64 (wrap64 ((wrap64 (qm + 3)) + 1)),.int .i64 qj,.int .i64 qk,.int .i64 ql] 41 (0,0)) (by (with_reducible repeat (first|refine blk_drewN ?_ _|refine blk_drew ?_|refine blk_alloc ?_ _));exact qe.out) hb);have n6_:=Aside0.mk (below_step z61x12 hb);clear HO_6;clear HO_8;clear wb;clear qb;clear qe;clear HB;have HO_6:=n0_;have HO_8:=n1_;have wb:=n2_;have wv:=n3_;have qb:=n4_;have qe:=n5_;have HB:=n6_;clear n0_ n1_ n2_ n3_ n4_ n5_ n6_;clear hb wi;obtain ⟨qbq,qbg,qai⟩:=Kd.V_slice wb.out;subst qai;obtain ⟨qbp,qbf,qah⟩:=Kd.R_slice wv.out;subst qah)|(go_at_call 42;(with_reducible refine (laws_lbSeals.calls kj5 _ _ wt _ _ us wg _ ?side1 ?side2 ?side3 ?side4 A31.out).mono ?_);(case side1=>repeat (first|exact (Kd.V_reads' wb.out).2.2|(with_reducible refine Kd.C_alloc ?_ _)|(with_reducible refine Kd.C_drewN ?_ _)|(with_reducible refine Kd.C_drew ?_)));(case side2=>exact (Kd.V_reads' wb.out).2.1);(case side3=>repeat (first|exact (Kd.R_reads' wv.out).2.2|(with_reducible refine Kd.C_alloc ?_ _)|(with_reducible refine Kd.C_drewN ?_ _)|(with_reducible refine Kd.C_drew ?_)));(case side4=>exact (Kd.R_reads' wv.out).2.1);rintro e w' ⟨rfl,⟨nd,rfl⟩⟩))
     go_ret
     exact ⟨by first|rfl|(simp [errW_none,errW_some] <;> rfl)|(simp [*,errW_none,errW_some] <;> rfl),by repeat (first|(with_reducible first|exact HB.out|apply below_alloc|apply pw_below_drewN|apply below_drew1|refine below_set ?_ qy.out|refine below_set ?_ ws.out)|exact HB.out)⟩

/-- THE ONE PURE STATEMENT of laws_FnCacheLater: yours. -/
def laws_FnCacheLater.Pure : Prop:=∀ (l0 : List Int),l0.length ≤ maxLen → l0.length * 1 ≤ 140737488351232 → (∀ x ∈ l0,(Lit.int .u8 x).wf = true) → ∃ k,laws_FnCacheLater.f k l0 = some true
theorem laws_FnCacheLater.walk (P : laws_FnCacheLater.Pure) (a0 : Option Addr) (wx wu : Nat) (z0 : List Int) (w : World) (w0 : (a0 = none ∧ wx = 0 ∧ wu = 0 ∧ z0 = []) ∨ ∃ x,a0 = some x ∧ wx ≤ wu ∧ wu ≤ maxLen ∧ z0.length = wu ∧ (∀ i,i < z0.length → w.cell? (x.add i) = some (.int .u8 (z0.getD i 0))) ∧ ∀ n ∈ z0,(Lit.int .u8 n).wf = true) (y0 : wx * 1 ≤ 140737488351232) :
  Calls Try.prog 8 #[.slice a0 wx wu] w fun e w' => e = .returned (.bool true) ∧ Below w.heap.size w w':=by
 obtain ⟨l0,rfl,hr0,hm0,hw0,hc0⟩:=ReadsInt.ofRowC w0
 obtain ⟨k,h⟩:=P l0 hm0 y0 hw0
 refine (laws_FnCacheLater.calls k _ _ l0 true w (Kd.C_of_reads (d:=(0 : Int)) (h1:=fun _=>rfl) hr0) hc0 h).mono ?_
 rintro e w' ⟨rfl,hd⟩
 exact ⟨rfl,hd⟩

end Go.Proofs.Ytgekmdfcbcacdaa.Hp
