-- hp.py
import Derived.Test.YtbipicjijbnbbaaHx0
import Derived.Test.YtbipicjijbnbbaaHx11
import Derived.Test.YtbipicjijbnbbaaHx20
import Derived.Test.YtbipicjijbnbbaaHx27
import Derived.Test.YtbipicjijbnbbaaHx32
import Derived.Test.YtbipicjijbnbbaaHx35
import Derived.Test.YtbipicjijbnbbaaHx36
namespace Go.Proofs.Ytbipicjijbnbbaa.Hp
open Go.RowKit Go.Proofs.YtbipicjijbnbbaaW.PrintWords Go.Proofs.YtbipicjijbnbbaaW.PrintLast Go.Proofs.YtbipicjijbnbbaaW.PrintMore
attribute [local go_sem] max2_int min2_int max_two min_two max_three min_three max_four min_four   -- for this text's walks alone
set_option linter.unusedVariables false
set_option linter.unusedSimpArgs false
-- squeezed by wip/tools/squeeze.py
theorem z37x14 {P : Prop} (h : P:=by (with_reducible repeat (first|refine blk_drewN ?_ _|refine blk_drew ?_|refine blk_alloc ?_ _));exact qa.out) : P:=h
theorem z37x13 {P : Prop} (h : P:=by repeat (first|(with_reducible first|exact HB.out|apply below_alloc|apply pw_below_drewN|apply below_drew1)|exact HB.out)) : P:=h
theorem z37x12 {P : Prop} (h : P:=by (try simp only [List.map_toArray,List.map_cons,List.map_nil]);first|done|rfl|(simp only [List.length_drop,List.length_take];rfl)) : P:=h
theorem z37x11 {P : Prop} (h : P:=by repeat (first|(with_reducible first|exact HB.out|apply below_alloc|apply pw_below_drewN|apply below_drew1|refine below_set ?_ wi.out)|exact HB.out)) : P:=h
theorem z37x10 {P : Prop} (h : P:=by rw [hg];exact (below_size (by repeat (first|(with_reducible first|exact HB.out|apply below_alloc|apply pw_below_drewN|apply below_drew1|refine below_set ?_ wi.out)|exact HB.out)))) : P:=h
theorem z37x9 {P : Prop} (h : P:=by repeat (first|(with_reducible first|exact HB.out|apply below_alloc|apply pw_below_drewN|apply below_drew1|refine below_set ?_ wi.out|refine below_set ?_ jb.out)|exact HB.out)) : P:=h
theorem z37x8 {P : Prop} (h : P:=by repeat (first|(with_reducible first|exact HB.out|apply below_alloc|apply pw_below_drewN|apply below_drew1|refine below_set ?_ wi.out|refine below_set ?_ jc.out)|exact HB.out)) : P:=h
theorem z37x7 {P : Prop} (h : P:=by rw [hg];exact Nat.ne_of_lt (blk_lt (g:=qb) (o:=.cells #[.int .i64 qi,.int .i64 qk,.slice qw qj.length qu,.slice qz qc.length qt,.slice (some uh) qe.length qr,.slice qq qh.length qp,.int .i64 ql] 69 (0,0)) (by (with_reducible repeat (first|refine blk_drewN ?_ _|refine blk_drew ?_|refine blk_alloc ?_ _));exact qa.out))) : P:=h
theorem z37x6 {P : Prop} (h : P:=by rw [hg];exact Nat.ne_of_lt (blk_lt (g:=qb) (o:=.cells #[.int .i64 qi,.int .i64 qk,.slice qw qj.length qu,.slice (some ui) qc.length qt,.slice qy qe.length qr,.slice qq qh.length qp,.int .i64 ql] 69 (0,0)) (by (with_reducible repeat (first|refine blk_drewN ?_ _|refine blk_drew ?_|refine blk_alloc ?_ _));exact qa.out))) : P:=h
theorem z37x5 {P : Prop} (h : P:=by rw [hg];exact Nat.ne_of_gt (blk_lt (g:=qb) (o:=.cells #[.int .i64 qi,.int .i64 qk,.slice qw qj.length qu,.slice qz qc.length qt,.slice (some uh) qe.length qr,.slice qq qh.length qp,.int .i64 ql] 69 (0,0)) (by (with_reducible repeat (first|refine blk_drewN ?_ _|refine blk_drew ?_|refine blk_alloc ?_ _));exact qa.out))) : P:=h
theorem z37x4 {P : Prop} (h : P:=by rw [hg];exact Nat.ne_of_gt (blk_lt (g:=qb) (o:=.cells #[.int .i64 qi,.int .i64 qk,.slice qw qj.length qu,.slice (some ui) qc.length qt,.slice qy qe.length qr,.slice qq qh.length qp,.int .i64 ql] 69 (0,0)) (by (with_reducible repeat (first|refine blk_drewN ?_ _|refine blk_drew ?_|refine blk_alloc ?_ _));exact qa.out))) : P:=h
theorem z37x3 {P : Prop} (h : P:=by (with_reducible repeat (first|refine blk_drewN ?_ _|refine blk_drew ?_|refine blk_alloc ?_ _));refine blk_far ?_ qx.out _;(with_reducible repeat (first|refine blk_drewN ?_ _|refine blk_drew ?_|refine blk_alloc ?_ _));refine blk_far ?_ qx.out _;(with_reducible repeat (first|refine blk_drewN ?_ _|refine blk_drew ?_|refine blk_alloc ?_ _));refine blk_far ?_ qx.out _;(with_reducible repeat (first|refine blk_drewN ?_ _|refine blk_drew ?_|refine blk_alloc ?_ _));refine blk_far ?_ qx.out _;(with_reducible repeat (first|refine blk_drewN ?_ _|refine blk_drew ?_|refine blk_alloc ?_ _));exact qa.out) : P:=h
theorem z37x2 {P : Prop} (h : P:=by (with_reducible repeat (first|refine blk_drewN ?_ _|refine blk_drew ?_|refine blk_alloc ?_ _));refine blk_far ?_ qv.out _;(with_reducible repeat (first|refine blk_drewN ?_ _|refine blk_drew ?_|refine blk_alloc ?_ _));refine blk_far ?_ qv.out _;(with_reducible repeat (first|refine blk_drewN ?_ _|refine blk_drew ?_|refine blk_alloc ?_ _));refine blk_far ?_ qv.out _;(with_reducible repeat (first|refine blk_drewN ?_ _|refine blk_drew ?_|refine blk_alloc ?_ _));refine blk_far ?_ qv.out _;(with_reducible repeat (first|refine blk_drewN ?_ _|refine blk_drew ?_|refine blk_alloc ?_ _));refine blk_far ?_ qv.out _;(with_reducible repeat (first|refine blk_drewN ?_ _|refine blk_drew ?_|refine blk_alloc ?_ _));refine blk_far ?_ qv.out _;(with_reducible repeat (first|refine blk_drewN ?_ _|refine blk_drew ?_|refine blk_alloc ?_ _));exact qa.out) : P:=h
theorem z37x1 {P : Prop} (h : P:=by (with_reducible repeat (first|refine blk_drewN ?_ _|refine blk_drew ?_|refine blk_alloc ?_ _));refine blk_put (cs:=#[.int .i64 ((rd_T128 qe qf).f0),.int .i64 ((rd_T128 qe qf).f1),.slice wv ((rd_T128 qe qf).f2).length wt,.slice none 0 0]) ?_ 3 _ rfl;(with_reducible repeat (first|refine blk_drewN ?_ _|refine blk_drew ?_|refine blk_alloc ?_ _));refine blk_put (cs:=#[.int .i64 ((rd_T128 qe qf).f0),.int .i64 ((rd_T128 qe qf).f1),.slice none 0 0,.slice none 0 0]) ?_ 2 _ rfl;(with_reducible repeat (first|refine blk_drewN ?_ _|refine blk_drew ?_|refine blk_alloc ?_ _));refine blk_put (cs:=#[.int .i64 ((rd_T128 qe qf).f0),.int .i64 0,.slice none 0 0,.slice none 0 0]) ?_ 1 _ rfl;(with_reducible repeat (first|refine blk_drewN ?_ _|refine blk_drew ?_|refine blk_alloc ?_ _));refine blk_put (cs:=#[.int .i64 0,.int .i64 0,.slice none 0 0,.slice none 0 0]) ?_ 0 _ rfl;(with_reducible repeat (first|refine blk_drewN ?_ _|refine blk_drew ?_|refine blk_alloc ?_ _));exact qm.out) : P:=h
theorem z37x0 {P : Prop} (h : P:=by (with_reducible repeat (first|refine blk_drewN ?_ _|refine blk_drew ?_|refine blk_alloc ?_ _));refine blk_put (cs:=#[.int .i64 ((rd_T28 qc qd).f0),.int .i64 ((rd_T28 qc qd).f1),.slice wo ((rd_T28 qc qd).f2).length wn,.slice ws ((rd_T28 qc qd).f3).length wq,.slice ww ((rd_T28 qc qd).f4).length wu,.slice none 0 0]) ?_ 5 _ rfl;(with_reducible repeat (first|refine blk_drewN ?_ _|refine blk_drew ?_|refine blk_alloc ?_ _));refine blk_put (cs:=#[.int .i64 ((rd_T28 qc qd).f0),.int .i64 ((rd_T28 qc qd).f1),.slice wo ((rd_T28 qc qd).f2).length wn,.slice ws ((rd_T28 qc qd).f3).length wq,.slice none 0 0,.slice none 0 0]) ?_ 4 _ rfl;(with_reducible repeat (first|refine blk_drewN ?_ _|refine blk_drew ?_|refine blk_alloc ?_ _));refine blk_put (cs:=#[.int .i64 ((rd_T28 qc qd).f0),.int .i64 ((rd_T28 qc qd).f1),.slice wo ((rd_T28 qc qd).f2).length wn,.slice none 0 0,.slice none 0 0,.slice none 0 0]) ?_ 3 _ rfl;(with_reducible repeat (first|refine blk_drewN ?_ _|refine blk_drew ?_|refine blk_alloc ?_ _));refine blk_put (cs:=#[.int .i64 ((rd_T28 qc qd).f0),.int .i64 ((rd_T28 qc qd).f1),.slice none 0 0,.slice none 0 0,.slice none 0 0,.slice none 0 0]) ?_ 2 _ rfl;(with_reducible repeat (first|refine blk_drewN ?_ _|refine blk_drew ?_|refine blk_alloc ?_ _));refine blk_put (cs:=#[.int .i64 ((rd_T28 qc qd).f0),.int .i64 0,.slice none 0 0,.slice none 0 0,.slice none 0 0,.slice none 0 0]) ?_ 1 _ rfl;(with_reducible repeat (first|refine blk_drewN ?_ _|refine blk_drew ?_|refine blk_alloc ?_ _));refine blk_put (cs:=#[.int .i64 0,.int .i64 0,.slice none 0 0,.slice none 0 0,.slice none 0 0,.slice none 0 0]) ?_ 0 _ rfl;(with_reducible repeat (first|refine blk_drewN ?_ _|refine blk_drew ?_|refine blk_alloc ?_ _));exact qg.out) : P:=h

/-! ### impl_WorldOk: function 45 -/
mutual
noncomputable def impl_WorldOk.j0 : Nat → Bool → Int → Int → List (S41) → List (S28) → List (S128) → List (S34) → Int → Option (Bool)
 | 0,_,_,_,_,_,_,_,_=>none
 | k + 1,x40,ug,uf,ue,wy,wx,uc,ud=>if x40 = true then (some false) else (impl_WorldOk.l0 k wy (wy.length : Int) 0 ug uf ue wy wx uc ud)
noncomputable def impl_WorldOk.l0 : Nat → List (S28) → Int → Int → Int → Int → List (S41) → List (S28) → List (S128) → List (S34) → Int → Option (Bool)
 | 0,_,_,_,_,_,_,_,_,_,_=>none
 | k + 1,x42,x43,x44,ug,uf,ue,wy,wx,uc,ud=>if x44 < x43 then (if 0 ≤ x44 then (if x44 < (x42.length : Int) then ((impl_ClientOk.f ((rd_T28 x42 x44).f0) ((rd_T28 x42 x44).f1) ((rd_T28 x42 x44).f2) ((rd_T28 x42 x44).f3) ((rd_T28 x42 x44).f4) ((rd_T28 x42 x44).f5)).bind fun qdv=>(if qdv = true then (if ((rd_T28 x42 x44).f0) = (wrap64 (x44 + 1)) then (impl_WorldOk.l0 k x42 x43 (wrap64 (x44 + 1)) ug uf ue wy wx uc ud) else (some false)) else (some false))) else (none)) else (none)) else (impl_WorldOk.l1 k wx (wx.length : Int) 0 ug uf ue wy wx uc ud)
noncomputable def impl_WorldOk.l1 : Nat → List (S128) → Int → Int → Int → Int → List (S41) → List (S28) → List (S128) → List (S34) → Int → Option (Bool)
 | 0,_,_,_,_,_,_,_,_,_,_=>none
 | k + 1,x61,x62,x63,ug,uf,ue,wy,wx,uc,ud=>if x63 < x62 then (if 0 ≤ x63 then (if x63 < (x61.length : Int) then ((impl_ServOk.f k ((rd_T128 x61 x63).f0) ((rd_T128 x61 x63).f1) ((rd_T128 x61 x63).f2) ((rd_T128 x61 x63).f3)).bind fun qdu=>(if qdu = true then (if ((rd_T128 x61 x63).f0) = (wrap64 (x63 + 4)) then (impl_WorldOk.l1 k x61 x62 (wrap64 (x63 + 1)) ug uf ue wy wx uc ud) else (some false)) else (some false))) else (none)) else (none)) else ((impl_Msg_109.f uc).bind fun qdt=>(some (!qdt)))
end
noncomputable def impl_WorldOk.f (k : Nat) (qi : Int) (qk : Int) (qj : List (S41)) (qc : List (S28)) (qe : List (S128)) (qh : List (S34)) (ql : Int) : Option (Bool):=(impl_timeOk.f qi).bind fun qdo=>(if qdo = true then ((impl_KdcOk.f k qk qj).bind fun qct=>(if qct = true then (if (qc.length : Int) = 3 then (if (qe.length : Int) = 2 then (if (qh.length : Int) > 80 then (impl_WorldOk.j0 k true qi qk qj qc qe qh ql) else ((impl_within.f ql 0 3).bind fun uy=>(impl_WorldOk.j0 k (!uy) qi qk qj qc qe qh ql))) else (impl_WorldOk.j0 k true qi qk qj qc qe qh ql)) else (impl_WorldOk.j0 k true qi qk qj qc qe qh ql)) else (impl_WorldOk.j0 k true qi qk qj qc qe qh ql))) else (impl_WorldOk.j0 k true qi qk qj qc qe qh ql))
theorem impl_WorldOk.mono_l : ∀ k,(∀ y0 y1 y2 y3 y4 y5 y6 y7,LeO (impl_WorldOk.j0 k y0 y1 y2 y3 y4 y5 y6 y7) (impl_WorldOk.j0 (k + 1) y0 y1 y2 y3 y4 y5 y6 y7)) ∧ (∀ y0 y1 y2 y3 y4 y5 y6 y7 y8 y9,LeO (impl_WorldOk.l0 k y0 y1 y2 y3 y4 y5 y6 y7 y8 y9) (impl_WorldOk.l0 (k + 1) y0 y1 y2 y3 y4 y5 y6 y7 y8 y9)) ∧ (∀ y0 y1 y2 y3 y4 y5 y6 y7 y8 y9,LeO (impl_WorldOk.l1 k y0 y1 y2 y3 y4 y5 y6 y7 y8 y9) (impl_WorldOk.l1 (k + 1) y0 y1 y2 y3 y4 y5 y6 y7 y8 y9))
 | 0=>⟨fun _ _ _ _ _ _ _ _ r h=>by simp [impl_WorldOk.j0] at h,fun _ _ _ _ _ _ _ _ _ _ r h=>by simp [impl_WorldOk.l0] at h,fun _ _ _ _ _ _ _ _ _ _ r h=>by simp [impl_WorldOk.l1] at h⟩
 | k + 1=>by
  obtain ⟨ih0,ih1,ih2⟩:=impl_WorldOk.mono_l k
  refine ⟨?_,?_,?_⟩
  ·intro y0 y1 y2 y3 y4 y5 y6 y7
   unfold impl_WorldOk.j0
   repeat' first
   | (with_reducible exact ih0 _ _ _ _ _ _ _ _)
   | (with_reducible exact ih1 _ _ _ _ _ _ _ _ _ _)
   | (with_reducible exact ih2 _ _ _ _ _ _ _ _ _ _)
   | (with_reducible exact impl_KdcOk.mono _ _ _)
   | (with_reducible exact impl_ServOk.mono _ _ _ _ _)
   | (with_reducible exact LeO.refl _)
   | (with_reducible exact LeO.none _)
   | (with_reducible refine LeO.ite ?_ ?_)
   | (with_reducible refine LeO.bind ?_ (fun _=>?_))
   | exact ih0 _ _ _ _ _ _ _ _
   | exact ih1 _ _ _ _ _ _ _ _ _ _
   | exact ih2 _ _ _ _ _ _ _ _ _ _
   | exact impl_KdcOk.mono _ _ _
   | exact impl_ServOk.mono _ _ _ _ _
   | exact LeO.none _
   | refine LeO.ite ?_ ?_
   | refine LeO.bind ?_ (fun _=>?_)
  ·intro y0 y1 y2 y3 y4 y5 y6 y7 y8 y9
   unfold impl_WorldOk.l0
   repeat' first
   | (with_reducible exact ih0 _ _ _ _ _ _ _ _)
   | (with_reducible exact ih1 _ _ _ _ _ _ _ _ _ _)
   | (with_reducible exact ih2 _ _ _ _ _ _ _ _ _ _)
   | (with_reducible exact impl_KdcOk.mono _ _ _)
   | (with_reducible exact impl_ServOk.mono _ _ _ _ _)
   | (with_reducible exact LeO.refl _)
   | (with_reducible exact LeO.none _)
   | (with_reducible refine LeO.ite ?_ ?_)
   | (with_reducible refine LeO.bind ?_ (fun _=>?_))
   | exact ih0 _ _ _ _ _ _ _ _
   | exact ih1 _ _ _ _ _ _ _ _ _ _
   | exact ih2 _ _ _ _ _ _ _ _ _ _
   | exact impl_KdcOk.mono _ _ _
   | exact impl_ServOk.mono _ _ _ _ _
   | exact LeO.none _
   | refine LeO.ite ?_ ?_
   | refine LeO.bind ?_ (fun _=>?_)
  ·intro y0 y1 y2 y3 y4 y5 y6 y7 y8 y9
   unfold impl_WorldOk.l1
   repeat' first
   | (with_reducible exact ih0 _ _ _ _ _ _ _ _)
   | (with_reducible exact ih1 _ _ _ _ _ _ _ _ _ _)
   | (with_reducible exact ih2 _ _ _ _ _ _ _ _ _ _)
   | (with_reducible exact impl_KdcOk.mono _ _ _)
   | (with_reducible exact impl_ServOk.mono _ _ _ _ _)
   | (with_reducible exact LeO.refl _)
   | (with_reducible exact LeO.none _)
   | (with_reducible refine LeO.ite ?_ ?_)
   | (with_reducible refine LeO.bind ?_ (fun _=>?_))
   | exact ih0 _ _ _ _ _ _ _ _
   | exact ih1 _ _ _ _ _ _ _ _ _ _
   | exact ih2 _ _ _ _ _ _ _ _ _ _
   | exact impl_KdcOk.mono _ _ _
   | exact impl_ServOk.mono _ _ _ _ _
   | exact LeO.none _
   | refine LeO.ite ?_ ?_
   | refine LeO.bind ?_ (fun _=>?_)
theorem impl_WorldOk.mono : ∀ a0 a1 a2 a3 a4 a5 a6 k,LeO (impl_WorldOk.f k a0 a1 a2 a3 a4 a5 a6) (impl_WorldOk.f (k + 1) a0 a1 a2 a3 a4 a5 a6):=by
 intro a0 a1 a2 a3 a4 a5 a6 k
 obtain ⟨ih0,ih1,ih2⟩:=impl_WorldOk.mono_l k
 unfold impl_WorldOk.f
 repeat' first
   | (with_reducible exact ih0 _ _ _ _ _ _ _ _)
   | (with_reducible exact ih1 _ _ _ _ _ _ _ _ _ _)
   | (with_reducible exact ih2 _ _ _ _ _ _ _ _ _ _)
   | (with_reducible exact impl_KdcOk.mono _ _ _)
   | (with_reducible exact impl_ServOk.mono _ _ _ _ _)
   | (with_reducible exact LeO.refl _)
   | (with_reducible exact LeO.none _)
   | (with_reducible refine LeO.ite ?_ ?_)
   | (with_reducible refine LeO.bind ?_ (fun _=>?_))
   | exact ih0 _ _ _ _ _ _ _ _
   | exact ih1 _ _ _ _ _ _ _ _ _ _
   | exact ih2 _ _ _ _ _ _ _ _ _ _
   | exact impl_KdcOk.mono _ _ _
   | exact impl_ServOk.mono _ _ _ _ _
   | exact LeO.none _
   | refine LeO.ite ?_ ?_
   | refine LeO.bind ?_ (fun _=>?_)
set_option maxHeartbeats 8000000 in
set_option maxRecDepth 100000 in
theorem impl_WorldOk.calls (k : Nat) (qi : Int) (qk : Int) (qw : Option Addr) (qu : Nat) (qj : List (S41)) (qz : Option Addr) (qt : Nat) (qc : List (S28)) (qy : Option Addr) (qr : Nat) (qe : List (S128)) (qq : Option Addr) (qp : Nat) (qh : List (S34)) (ql : Int) (r : Bool) (w : World) (qgy : Kd.C k41 w qw qj.length qj) (qhc : qj.length ≤ qu) (qgx : Kd.C k28 w qz qc.length qc) (qhb : qc.length ≤ qt) (qgw : Kd.C k128 w qy qe.length qe) (qha : qe.length ≤ qr) (qgv : Kd.C k34 w qq qh.length qh) (qgz : qh.length ≤ qp) (h : impl_WorldOk.f k qi qk qj qc qe qh ql = some r) :
  Calls Try.prog 45 #[.agg #[.int .i64 qi,.int .i64 qk,.slice qw qj.length qu,.slice qz qc.length qt,.slice qy qe.length qr,.slice qq qh.length qp,.int .i64 ql]] w fun e w' => e = .returned (.bool r) ∧ Below w.heap.size w w':=by
 have qko:=Try.underlying69
 have qkp:=Try.underlying64
 have qkq:=Try.underlying28
 have qjv:=Try.underlying128
 have qcv:=Aside0.mk qgy
 have qcw:=Aside0.mk qhc
 clear qgy qhc
 have qds:=Aside0.mk qgx
 have qkl:=Aside0.mk qhb
 clear qgx qhb
 have qdr:=Aside0.mk qgw
 have qkk:=Aside0.mk qha
 clear qgw qha
 have qhn:=Aside0.mk qgv
 have qho:=Aside0.mk qgz
 clear qgv qgz
 have HB:=Aside0.mk (Below.refl w.heap.size w)
 have H : ((impl_timeOk.f qi).bind fun qdo=>(if qdo = true then ((impl_KdcOk.f k qk qj).bind fun qct=>(if qct = true then (if (qc.length : Int) = 3 then (if (qe.length : Int) = 2 then (if (qh.length : Int) > 80 then (impl_WorldOk.j0 k true qi qk qj qc qe qh ql) else ((impl_within.f ql 0 3).bind fun uy=>(impl_WorldOk.j0 k (!uy) qi qk qj qc qe qh ql))) else (impl_WorldOk.j0 k true qi qk qj qc qe qh ql)) else (impl_WorldOk.j0 k true qi qk qj qc qe qh ql)) else (impl_WorldOk.j0 k true qi qk qj qc qe qh ql))) else (impl_WorldOk.j0 k true qi qk qj qc qe qh ql))) = some r:=h
 clear h
 have HC2:=Aside0.mk H
 clear H
 go_enter Try.func45,Try.ntmps45
 go_upto_region 1 with (first|((with_reducible refine gate_dst (N:=1) rfl ?_);refine box_event ?hg (N:=1) ?hd (cs:=#[.int .i64 qi,.int .i64 qk,.slice qw qj.length qu,.slice qz qc.length qt,.slice qy qe.length qr,.slice qq qh.length qp,.int .i64 ql]) (t:=69) ?hr ?_;(case hd=>rfl);(case hg=>rfl);(case hr=>first|(go_simp;done)|(go_simp;rfl));intro qb hg w3 hbox hb;have n0_:=Aside0.mk (below_step z37x13 hb);have n1_:=Aside0.mk (hbox);have n2_:=Aside0.mk ((by rw [hg];exact (below_size z37x13) : w.heap.size ≤ qb));have n3_:=Aside0.mk ((by rw [hg];exact (below_size z37x13) : w.heap.size ≤ qb));clear HB;have HB:=n0_;have qa:=n1_;have qkm:=n2_;have wi:=n3_;clear n0_ n1_ n2_ n3_;clear hb hbox hg))
 (try simp only [Act.put,List.setIfInBounds_toArray,List.set_cons_zero,List.set_cons_succ])
 go_cut [40] (fun v40 wc=>∃ (kq : Nat) (qcx : Bool),v40 = .bool qcx ∧ Aside0 (impl_WorldOk.j0 kq qcx qi qk qj qc qe qh ql = some r) ∧ Aside0 (kq ≤ k) ∧ Aside0 (wc.heap[qb]? = some (.cells #[.int .i64 qi,.int .i64 qk,(.slice qw qj.length qu),(.slice qz qc.length qt),(.slice qy qe.length qr),(.slice qq qh.length qp),.int .i64 ql] 69 (0,0))) ∧ Aside0 (Below w.heap.size w wc))
 case first =>
  have H:=HC2.out
  clear HC2
  replace H:=Option.bind_eq_some_iff.mp H
  obtain ⟨qdo,A40,H⟩:=H
  replace H : (if qdo = true then ((impl_KdcOk.f k qk qj).bind fun qct=>(if qct = true then (if (qc.length : Int) = 3 then (if (qe.length : Int) = 2 then (if (qh.length : Int) > 80 then (impl_WorldOk.j0 k true qi qk qj qc qe qh ql) else ((impl_within.f ql 0 3).bind fun uy=>(impl_WorldOk.j0 k (!uy) qi qk qj qc qe qh ql))) else (impl_WorldOk.j0 k true qi qk qj qc qe qh ql)) else (impl_WorldOk.j0 k true qi qk qj qc qe qh ql)) else (impl_WorldOk.j0 k true qi qk qj qc qe qh ql))) else (impl_WorldOk.j0 k true qi qk qj qc qe qh ql)) = some r:=H
  have A4:=Aside0.mk A40
  clear A40
  by_cases c5 : qdo = true
  rotate_left
  ·replace c5:=Bool.eq_false_iff.mpr c5
   subst c5
   rw [if_neg (show ¬ (false = true) by decide)] at H
   have H':=Aside0.mk H
   clear H
   have qah : w3.cell? ⟨qb,0,none⟩ = some (.int .i64 qi):=(blk_cell qa.out 0).trans rfl
   have qag : w3.cell? ⟨qb,1,none⟩ = some (.int .i64 qk):=(blk_cell qa.out 1).trans rfl
   have qaf : w3.cell? ⟨qb,2,none⟩ = some (.slice qw qj.length qu):=(blk_cell qa.out 2).trans rfl
   have qae : w3.cell? ⟨qb,3,none⟩ = some (.slice qz qc.length qt):=(blk_cell qa.out 3).trans rfl
   have qad : w3.cell? ⟨qb,4,none⟩ = some (.slice qy qe.length qr):=(blk_cell qa.out 4).trans rfl
   have qac : w3.cell? ⟨qb,5,none⟩ = some (.slice qq qh.length qp):=(blk_cell qa.out 5).trans rfl
   have qab : w3.cell? ⟨qb,6,none⟩ = some (.int .i64 ql):=(blk_cell qa.out 6).trans rfl
   have jj:=blk_frozen qa.out 0
   have ji:=blk_frozen qa.out 1
   have jh:=blk_frozen qa.out 2
   have jg:=blk_frozen qa.out 3
   have jf:=blk_frozen qa.out 4
   have je:=blk_frozen qa.out 5
   have jd:=blk_frozen qa.out 6
   go_wp2_with (first|((with_reducible refine gate_callee (f:=68) rfl ?_);refine goesL_ (some 9) rfl rfl Try.func68 (by kernel_rfl) rfl #[.int .i64 qi] rfl z37x12 ?_;(with_reducible refine (impl_timeOk.calls qi false _ A4.out).mono ?_);rintro e w' ⟨rfl,⟨nd,rfl⟩⟩; refine ⟨_,rfl,?_⟩))
   go_meet
   case rel=>exact ⟨_,(true),(by first|rfl|(simp;done)|(simp [*];done)),H',⟨by first|omega|exact Nat.le_refl _⟩,⟨by (with_reducible repeat (first|refine blk_drewN ?_ _|refine blk_drew ?_|refine blk_alloc ?_ _));exact qa.out⟩,⟨by repeat (first|(with_reducible first|exact HB.out|apply below_alloc|apply pw_below_drewN|apply below_drew1|refine below_set ?_ wi.out)|exact HB.out)⟩⟩
  subst c5
  rw [if_pos rfl] at H
  replace H:=Option.bind_eq_some_iff.mp H
  obtain ⟨qct,A60,H⟩:=H
  replace H : (if qct = true then (if (qc.length : Int) = 3 then (if (qe.length : Int) = 2 then (if (qh.length : Int) > 80 then (impl_WorldOk.j0 k true qi qk qj qc qe qh ql) else ((impl_within.f ql 0 3).bind fun uy=>(impl_WorldOk.j0 k (!uy) qi qk qj qc qe qh ql))) else (impl_WorldOk.j0 k true qi qk qj qc qe qh ql)) else (impl_WorldOk.j0 k true qi qk qj qc qe qh ql)) else (impl_WorldOk.j0 k true qi qk qj qc qe qh ql)) = some r:=H
  have A6:=Aside0.mk A60
  clear A60
  by_cases c7 : qct = true
  rotate_left
  ·replace c7:=Bool.eq_false_iff.mpr c7
   subst c7
   rw [if_neg (show ¬ (false = true) by decide)] at H
   have H':=Aside0.mk H
   clear H
   have qao : w3.cell? ⟨qb,0,none⟩ = some (.int .i64 qi):=(blk_cell qa.out 0).trans rfl
   have qan : w3.cell? ⟨qb,1,none⟩ = some (.int .i64 qk):=(blk_cell qa.out 1).trans rfl
   have qam : w3.cell? ⟨qb,2,none⟩ = some (.slice qw qj.length qu):=(blk_cell qa.out 2).trans rfl
   have qal : w3.cell? ⟨qb,3,none⟩ = some (.slice qz qc.length qt):=(blk_cell qa.out 3).trans rfl
   have qak : w3.cell? ⟨qb,4,none⟩ = some (.slice qy qe.length qr):=(blk_cell qa.out 4).trans rfl
   have qaj : w3.cell? ⟨qb,5,none⟩ = some (.slice qq qh.length qp):=(blk_cell qa.out 5).trans rfl
   have qai : w3.cell? ⟨qb,6,none⟩ = some (.int .i64 ql):=(blk_cell qa.out 6).trans rfl
   have jq:=blk_frozen qa.out 0
   have jp:=blk_frozen qa.out 1
   have jo:=blk_frozen qa.out 2
   have jn:=blk_frozen qa.out 3
   have jm:=blk_frozen qa.out 4
   have jl:=blk_frozen qa.out 5
   have jk:=blk_frozen qa.out 6
   go_wp2_with (first|((with_reducible refine gate_callee (f:=68) rfl ?_);refine goesL_ (some 9) rfl rfl Try.func68 (by kernel_rfl) rfl #[.int .i64 qi] rfl z37x12 ?_;(with_reducible refine (impl_timeOk.calls qi true _ A4.out).mono ?_);rintro e w' ⟨rfl,⟨nd,rfl⟩⟩; refine ⟨_,rfl,?_⟩)|(go_at_call 107;(with_reducible refine (impl_KdcOk.calls k qk _ _ qj false _ ?side1 ?side2 A6.out).mono ?_);(case side1=>repeat (first|exact (Kd.C_below qcv.out z37x11)|(with_reducible refine Kd.C_alloc ?_ _)|(with_reducible refine Kd.C_drewN ?_ _)|(with_reducible refine Kd.C_drew ?_)));(case side2=>exact qcw.out);rintro e w25 ⟨rfl,hb⟩; have n0_:=Aside0.mk (blk_below (g:=qb) (o:=.cells #[.int .i64 qi,.int .i64 qk,.slice qw qj.length qu,.slice qz qc.length qt,.slice qy qe.length qr,.slice qq qh.length qp,.int .i64 ql] 69 (0,0)) z37x14 hb);have n1_:=Aside0.mk (below_step z37x11 hb);clear qa;clear HB;have qa:=n0_;have HB:=n1_;clear n0_ n1_;(try clear hb);(try clear hb2);(try clear hk);(try clear hi)))
   go_meet
   case rel=>exact ⟨_,(true),(by first|rfl|(simp;done)|(simp [*];done)),H',⟨by first|omega|exact Nat.le_refl _⟩,⟨by (with_reducible repeat (first|refine blk_drewN ?_ _|refine blk_drew ?_|refine blk_alloc ?_ _));exact qa.out⟩,⟨by repeat (first|(with_reducible first|exact HB.out|apply below_alloc|apply pw_below_drewN|apply below_drew1|refine below_set ?_ wi.out)|exact HB.out)⟩⟩
  subst c7
  rw [if_pos rfl] at H
  by_cases c8 : (qc.length : Int) = 3
  rotate_left
  ·rw [if_neg c8] at H
   have qcu : ((qc.length : Int) == 3) = false:=beq_eq_false_iff_ne.mpr c8
   have qgu : ((qc.length : Int) != 3) = true:=bne_iff_ne.mpr c8
   (first|rw [qcu]|(simp only [i64_w,i32_w];rw [qcu])|skip)
   have H':=Aside0.mk H
   clear H
   have qbc : w3.cell? ⟨qb,0,none⟩ = some (.int .i64 qi):=(blk_cell qa.out 0).trans rfl
   have qbb : w3.cell? ⟨qb,1,none⟩ = some (.int .i64 qk):=(blk_cell qa.out 1).trans rfl
   have qba : w3.cell? ⟨qb,2,none⟩ = some (.slice qw qj.length qu):=(blk_cell qa.out 2).trans rfl
   have qaz : w3.cell? ⟨qb,3,none⟩ = some (.slice qz qc.length qt):=(blk_cell qa.out 3).trans rfl
   have qay : w3.cell? ⟨qb,4,none⟩ = some (.slice qy qe.length qr):=(blk_cell qa.out 4).trans rfl
   have qax : w3.cell? ⟨qb,5,none⟩ = some (.slice qq qh.length qp):=(blk_cell qa.out 5).trans rfl
   have qaw : w3.cell? ⟨qb,6,none⟩ = some (.int .i64 ql):=(blk_cell qa.out 6).trans rfl
   have gg:=blk_frozen qa.out 0
   have gf:=blk_frozen qa.out 1
   have gc:=blk_frozen qa.out 2
   have gb:=blk_frozen qa.out 3
   have ga:=blk_frozen qa.out 4
   have jz:=blk_frozen qa.out 5
   have jy:=blk_frozen qa.out 6
   go_wp2_with (first|((with_reducible refine gate_callee (f:=68) rfl ?_);refine goesL_ (some 9) rfl rfl Try.func68 (by kernel_rfl) rfl #[.int .i64 qi] rfl z37x12 ?_;(with_reducible refine (impl_timeOk.calls qi true _ A4.out).mono ?_);rintro e w' ⟨rfl,⟨nd,rfl⟩⟩; refine ⟨_,rfl,?_⟩)|(go_at_call 107;(with_reducible refine (impl_KdcOk.calls k qk _ _ qj true _ ?side1 ?side2 A6.out).mono ?_);(case side1=>repeat (first|exact (Kd.C_below qcv.out z37x11)|(with_reducible refine Kd.C_alloc ?_ _)|(with_reducible refine Kd.C_drewN ?_ _)|(with_reducible refine Kd.C_drew ?_)));(case side2=>exact qcw.out);rintro e w22 ⟨rfl,hb⟩; have n0_:=Aside0.mk (blk_below (g:=qb) (o:=.cells #[.int .i64 qi,.int .i64 qk,.slice qw qj.length qu,.slice qz qc.length qt,.slice qy qe.length qr,.slice qq qh.length qp,.int .i64 ql] 69 (0,0)) z37x14 hb);have n1_:=Aside0.mk (below_step z37x11 hb);clear qa;clear HB;have qa:=n0_;have HB:=n1_;clear n0_ n1_;(try clear hb);(try clear hb2);(try clear hk);(try clear hi);have qav : w22.cell? ⟨qb,0,none⟩ = some (.int .i64 qi):=(blk_cell qa.out 0).trans rfl;have qau : w22.cell? ⟨qb,1,none⟩ = some (.int .i64 qk):=(blk_cell qa.out 1).trans rfl;have qat : w22.cell? ⟨qb,2,none⟩ = some (.slice qw qj.length qu):=(blk_cell qa.out 2).trans rfl;have qas : w22.cell? ⟨qb,3,none⟩ = some (.slice qz qc.length qt):=(blk_cell qa.out 3).trans rfl;have qar : w22.cell? ⟨qb,4,none⟩ = some (.slice qy qe.length qr):=(blk_cell qa.out 4).trans rfl;have qaq : w22.cell? ⟨qb,5,none⟩ = some (.slice qq qh.length qp):=(blk_cell qa.out 5).trans rfl;have qap : w22.cell? ⟨qb,6,none⟩ = some (.int .i64 ql):=(blk_cell qa.out 6).trans rfl;have jx:=blk_frozen qa.out 0;have jw:=blk_frozen qa.out 1;have jv:=blk_frozen qa.out 2;have ju:=blk_frozen qa.out 3;have jt:=blk_frozen qa.out 4;have js:=blk_frozen qa.out 5;have jr:=blk_frozen qa.out 6))
   go_meet
   case rel=>exact ⟨_,(true),(by first|rfl|(simp;done)|(simp [*];done)),H',⟨by first|omega|exact Nat.le_refl _⟩,⟨by (with_reducible repeat (first|refine blk_drewN ?_ _|refine blk_drew ?_|refine blk_alloc ?_ _));exact qa.out⟩,⟨by repeat (first|(with_reducible first|exact HB.out|apply below_alloc|apply pw_below_drewN|apply below_drew1|refine below_set ?_ wi.out)|exact HB.out)⟩⟩
  rw [if_pos c8] at H
  have qcu : ((qc.length : Int) == 3) = true:=beq_iff_eq.mpr c8
  have qgu : ((qc.length : Int) != 3) = false:=bne_eq_false_iff_eq.mpr c8
  clear c8
  (first|rw [qcu]|(simp only [i64_w,i32_w];rw [qcu])|skip)
  by_cases c9 : (qe.length : Int) = 2
  rotate_left
  ·rw [if_neg c9] at H
   have qgt : ((qe.length : Int) == 2) = false:=beq_eq_false_iff_ne.mpr c9
   have qgs : ((qe.length : Int) != 2) = true:=bne_iff_ne.mpr c9
   have H':=Aside0.mk H
   clear H
   have qbq : w3.cell? ⟨qb,0,none⟩ = some (.int .i64 qi):=(blk_cell qa.out 0).trans rfl
   have qbp : w3.cell? ⟨qb,1,none⟩ = some (.int .i64 qk):=(blk_cell qa.out 1).trans rfl
   have qbo : w3.cell? ⟨qb,2,none⟩ = some (.slice qw qj.length qu):=(blk_cell qa.out 2).trans rfl
   have qbn : w3.cell? ⟨qb,3,none⟩ = some (.slice qz qc.length qt):=(blk_cell qa.out 3).trans rfl
   have qbm : w3.cell? ⟨qb,4,none⟩ = some (.slice qy qe.length qr):=(blk_cell qa.out 4).trans rfl
   have qbl : w3.cell? ⟨qb,5,none⟩ = some (.slice qq qh.length qp):=(blk_cell qa.out 5).trans rfl
   have qbk : w3.cell? ⟨qb,6,none⟩ = some (.int .i64 ql):=(blk_cell qa.out 6).trans rfl
   have gw:=blk_frozen qa.out 0
   have gv:=blk_frozen qa.out 1
   have gu:=blk_frozen qa.out 2
   have gt:=blk_frozen qa.out 3
   have gs:=blk_frozen qa.out 4
   have gr:=blk_frozen qa.out 5
   have gq:=blk_frozen qa.out 6
   go_wp2_with (first|((with_reducible refine gate_callee (f:=68) rfl ?_);refine goesL_ (some 9) rfl rfl Try.func68 (by kernel_rfl) rfl #[.int .i64 qi] rfl z37x12 ?_;(with_reducible refine (impl_timeOk.calls qi true _ A4.out).mono ?_);rintro e w' ⟨rfl,⟨nd,rfl⟩⟩; refine ⟨_,rfl,?_⟩)|(go_at_call 107;(with_reducible refine (impl_KdcOk.calls k qk _ _ qj true _ ?side1 ?side2 A6.out).mono ?_);(case side1=>repeat (first|exact (Kd.C_below qcv.out z37x11)|(with_reducible refine Kd.C_alloc ?_ _)|(with_reducible refine Kd.C_drewN ?_ _)|(with_reducible refine Kd.C_drew ?_)));(case side2=>exact qcw.out);rintro e w19 ⟨rfl,hb⟩; have n0_:=Aside0.mk (blk_below (g:=qb) (o:=.cells #[.int .i64 qi,.int .i64 qk,.slice qw qj.length qu,.slice qz qc.length qt,.slice qy qe.length qr,.slice qq qh.length qp,.int .i64 ql] 69 (0,0)) z37x14 hb);have n1_:=Aside0.mk (below_step z37x11 hb);clear qa;clear HB;have qa:=n0_;have HB:=n1_;clear n0_ n1_;(try clear hb);(try clear hb2);(try clear hk);(try clear hi);have qbj : w19.cell? ⟨qb,0,none⟩ = some (.int .i64 qi):=(blk_cell qa.out 0).trans rfl;have qbi : w19.cell? ⟨qb,1,none⟩ = some (.int .i64 qk):=(blk_cell qa.out 1).trans rfl;have qbh : w19.cell? ⟨qb,2,none⟩ = some (.slice qw qj.length qu):=(blk_cell qa.out 2).trans rfl;have qbg : w19.cell? ⟨qb,3,none⟩ = some (.slice qz qc.length qt):=(blk_cell qa.out 3).trans rfl;have qbf : w19.cell? ⟨qb,4,none⟩ = some (.slice qy qe.length qr):=(blk_cell qa.out 4).trans rfl;have qbe : w19.cell? ⟨qb,5,none⟩ = some (.slice qq qh.length qp):=(blk_cell qa.out 5).trans rfl;have qbd : w19.cell? ⟨qb,6,none⟩ = some (.int .i64 ql):=(blk_cell qa.out 6).trans rfl;have gp:=blk_frozen qa.out 0;have gn:=blk_frozen qa.out 1;have gm:=blk_frozen qa.out 2;have gl:=blk_frozen qa.out 3;have gj:=blk_frozen qa.out 4;have gi:=blk_frozen qa.out 5;have gh:=blk_frozen qa.out 6))
   go_meet
   case rel=>exact ⟨_,(true),(by first|rfl|(simp;done)|(simp [*];done)),H',⟨by first|omega|exact Nat.le_refl _⟩,⟨by (with_reducible repeat (first|refine blk_drewN ?_ _|refine blk_drew ?_|refine blk_alloc ?_ _));exact qa.out⟩,⟨by repeat (first|(with_reducible first|exact HB.out|apply below_alloc|apply pw_below_drewN|apply below_drew1|refine below_set ?_ wi.out)|exact HB.out)⟩⟩
  rw [if_pos c9] at H
  have qgt : ((qe.length : Int) == 2) = true:=beq_iff_eq.mpr c9
  have qgs : ((qe.length : Int) != 2) = false:=bne_eq_false_iff_eq.mpr c9
  clear c9
  by_cases c10 : (qh.length : Int) > 80
  ·rw [if_pos c10] at H
   have qdn : decide (80 < (qh.length : Int)) = true:=decide_eq_true c10
   have qdm : decide (80 < qh.length) = true:=decide_eq_true (by omega)
   clear c10
   have H':=Aside0.mk H
   clear H
   have qcs : w3.cell? ⟨qb,0,none⟩ = some (.int .i64 qi):=(blk_cell qa.out 0).trans rfl
   have qcr : w3.cell? ⟨qb,1,none⟩ = some (.int .i64 qk):=(blk_cell qa.out 1).trans rfl
   have qcq : w3.cell? ⟨qb,2,none⟩ = some (.slice qw qj.length qu):=(blk_cell qa.out 2).trans rfl
   have qcp : w3.cell? ⟨qb,3,none⟩ = some (.slice qz qc.length qt):=(blk_cell qa.out 3).trans rfl
   have qco : w3.cell? ⟨qb,4,none⟩ = some (.slice qy qe.length qr):=(blk_cell qa.out 4).trans rfl
   have qcn : w3.cell? ⟨qb,5,none⟩ = some (.slice qq qh.length qp):=(blk_cell qa.out 5).trans rfl
   have qcm : w3.cell? ⟨qb,6,none⟩ = some (.int .i64 ql):=(blk_cell qa.out 6).trans rfl
   have qaa:=blk_frozen qa.out 0
   have pz:=blk_frozen qa.out 1
   have px:=blk_frozen qa.out 2
   have pw:=blk_frozen qa.out 3
   have pv:=blk_frozen qa.out 4
   have pu:=blk_frozen qa.out 5
   have pt:=blk_frozen qa.out 6
   go_wp2_with (first|((with_reducible refine gate_callee (f:=68) rfl ?_);refine goesL_ (some 9) rfl rfl Try.func68 (by kernel_rfl) rfl #[.int .i64 qi] rfl z37x12 ?_;(with_reducible refine (impl_timeOk.calls qi true _ A4.out).mono ?_);rintro e w' ⟨rfl,⟨nd,rfl⟩⟩; refine ⟨_,rfl,?_⟩)|(go_at_call 107;(with_reducible refine (impl_KdcOk.calls k qk _ _ qj true _ ?side1 ?side2 A6.out).mono ?_);(case side1=>repeat (first|exact (Kd.C_below qcv.out z37x11)|(with_reducible refine Kd.C_alloc ?_ _)|(with_reducible refine Kd.C_drewN ?_ _)|(with_reducible refine Kd.C_drew ?_)));(case side2=>exact qcw.out);rintro e w12 ⟨rfl,hb⟩; have n0_:=Aside0.mk (blk_below (g:=qb) (o:=.cells #[.int .i64 qi,.int .i64 qk,.slice qw qj.length qu,.slice qz qc.length qt,.slice qy qe.length qr,.slice qq qh.length qp,.int .i64 ql] 69 (0,0)) z37x14 hb);have n1_:=Aside0.mk (below_step z37x11 hb);clear qa;clear HB;have qa:=n0_;have HB:=n1_;clear n0_ n1_;(try clear hb);(try clear hb2);(try clear hk);(try clear hi);have qcl : w12.cell? ⟨qb,0,none⟩ = some (.int .i64 qi):=(blk_cell qa.out 0).trans rfl;have qck : w12.cell? ⟨qb,1,none⟩ = some (.int .i64 qk):=(blk_cell qa.out 1).trans rfl;have qcj : w12.cell? ⟨qb,2,none⟩ = some (.slice qw qj.length qu):=(blk_cell qa.out 2).trans rfl;have qci : w12.cell? ⟨qb,3,none⟩ = some (.slice qz qc.length qt):=(blk_cell qa.out 3).trans rfl;have qch : w12.cell? ⟨qb,4,none⟩ = some (.slice qy qe.length qr):=(blk_cell qa.out 4).trans rfl;have qcg : w12.cell? ⟨qb,5,none⟩ = some (.slice qq qh.length qp):=(blk_cell qa.out 5).trans rfl;have qcf : w12.cell? ⟨qb,6,none⟩ = some (.int .i64 ql):=(blk_cell qa.out 6).trans rfl;have pr:=blk_frozen qa.out 0;have pq:=blk_frozen qa.out 1;have pp:=blk_frozen qa.out 2;have po:=blk_frozen qa.out 3;have pn:=blk_frozen qa.out 4;have pm:=blk_frozen qa.out 5;have pl:=blk_frozen qa.out 6))
   go_meet
   case rel=>exact ⟨_,(true),(by first|rfl|(simp;done)|(simp [*];done)),H',⟨by first|omega|exact Nat.le_refl _⟩,⟨by (with_reducible repeat (first|refine blk_drewN ?_ _|refine blk_drew ?_|refine blk_alloc ?_ _));exact qa.out⟩,⟨by repeat (first|(with_reducible first|exact HB.out|apply below_alloc|apply pw_below_drewN|apply below_drew1|refine below_set ?_ wi.out)|exact HB.out)⟩⟩
  ·rw [if_neg c10] at H
   have qdn : decide (80 < (qh.length : Int)) = false:=decide_eq_false c10
   have qdm : decide (80 < qh.length) = false:=decide_eq_false (by omega)
   clear c10
   replace H:=Option.bind_eq_some_iff.mp H
   obtain ⟨uy,qhs,H⟩:=H
   replace H : (impl_WorldOk.j0 k (!uy) qi qk qj qc qe qh ql) = some r:=H
   have A14:=Aside0.mk qhs
   clear qhs
   have H':=Aside0.mk H
   clear H
   have qce : w3.cell? ⟨qb,0,none⟩ = some (.int .i64 qi):=(blk_cell qa.out 0).trans rfl
   have qcd : w3.cell? ⟨qb,1,none⟩ = some (.int .i64 qk):=(blk_cell qa.out 1).trans rfl
   have qcc : w3.cell? ⟨qb,2,none⟩ = some (.slice qw qj.length qu):=(blk_cell qa.out 2).trans rfl
   have qcb : w3.cell? ⟨qb,3,none⟩ = some (.slice qz qc.length qt):=(blk_cell qa.out 3).trans rfl
   have qca : w3.cell? ⟨qb,4,none⟩ = some (.slice qy qe.length qr):=(blk_cell qa.out 4).trans rfl
   have qbz : w3.cell? ⟨qb,5,none⟩ = some (.slice qq qh.length qp):=(blk_cell qa.out 5).trans rfl
   have qby : w3.cell? ⟨qb,6,none⟩ = some (.int .i64 ql):=(blk_cell qa.out 6).trans rfl
   have pk:=blk_frozen qa.out 0
   have pj:=blk_frozen qa.out 1
   have pi:=blk_frozen qa.out 2
   have ph:=blk_frozen qa.out 3
   have pg:=blk_frozen qa.out 4
   have pf:=blk_frozen qa.out 5
   have pe:=blk_frozen qa.out 6
   go_wp2_with (first|((with_reducible refine gate_callee (f:=68) rfl ?_);refine goesL_ (some 9) rfl rfl Try.func68 (by kernel_rfl) rfl #[.int .i64 qi] rfl z37x12 ?_;(with_reducible refine (impl_timeOk.calls qi true _ A4.out).mono ?_);rintro e w' ⟨rfl,⟨nd,rfl⟩⟩; refine ⟨_,rfl,?_⟩)|(go_at_call 107;(with_reducible refine (impl_KdcOk.calls k qk _ _ qj true _ ?side1 ?side2 A6.out).mono ?_);(case side1=>repeat (first|exact (Kd.C_below qcv.out z37x11)|(with_reducible refine Kd.C_alloc ?_ _)|(with_reducible refine Kd.C_drewN ?_ _)|(with_reducible refine Kd.C_drew ?_)));(case side2=>exact qcw.out);rintro e w16 ⟨rfl,hb⟩; have n0_:=Aside0.mk (blk_below (g:=qb) (o:=.cells #[.int .i64 qi,.int .i64 qk,.slice qw qj.length qu,.slice qz qc.length qt,.slice qy qe.length qr,.slice qq qh.length qp,.int .i64 ql] 69 (0,0)) z37x14 hb);have n1_:=Aside0.mk (below_step z37x11 hb);clear qa;clear HB;have qa:=n0_;have HB:=n1_;clear n0_ n1_;(try clear hb);(try clear hb2);(try clear hk);(try clear hi);have qbx : w16.cell? ⟨qb,0,none⟩ = some (.int .i64 qi):=(blk_cell qa.out 0).trans rfl;have qbw : w16.cell? ⟨qb,1,none⟩ = some (.int .i64 qk):=(blk_cell qa.out 1).trans rfl;have qbv : w16.cell? ⟨qb,2,none⟩ = some (.slice qw qj.length qu):=(blk_cell qa.out 2).trans rfl;have qbu : w16.cell? ⟨qb,3,none⟩ = some (.slice qz qc.length qt):=(blk_cell qa.out 3).trans rfl;have qbt : w16.cell? ⟨qb,4,none⟩ = some (.slice qy qe.length qr):=(blk_cell qa.out 4).trans rfl;have qbs : w16.cell? ⟨qb,5,none⟩ = some (.slice qq qh.length qp):=(blk_cell qa.out 5).trans rfl;have qbr : w16.cell? ⟨qb,6,none⟩ = some (.int .i64 ql):=(blk_cell qa.out 6).trans rfl;have pd:=blk_frozen qa.out 0;have pc:=blk_frozen qa.out 1;have pb:=blk_frozen qa.out 2;have pa:=blk_frozen qa.out 3;have gz:=blk_frozen qa.out 4;have gy:=blk_frozen qa.out 5;have gx:=blk_frozen qa.out 6)|(go_at_call 72;(with_reducible refine (impl_within.calls ql 0 3 uy _ A14.out).mono ?_);rintro e w' ⟨rfl,⟨nd,rfl⟩⟩))
   go_meet
   case rel=>exact ⟨_,(!uy),(by first|rfl|(simp;done)|(simp [*];done)),H',⟨by first|omega|exact Nat.le_refl _⟩,⟨by (with_reducible repeat (first|refine blk_drewN ?_ _|refine blk_drew ?_|refine blk_alloc ?_ _));exact qa.out⟩,⟨by repeat (first|(with_reducible first|exact HB.out|apply below_alloc|apply pw_below_drewN|apply below_drew1|refine below_set ?_ wi.out)|exact HB.out)⟩⟩
 case rest =>
  clear HC2
  try clear c1
  try clear p2
  try clear c4
  try clear c5
  try clear c6
  try clear c7
  try clear c8
  try clear qcu
  try clear qgu
  try clear c9
  try clear qgt
  try clear qgs
  try clear c10
  try clear qdn
  try clear qdm
  try clear qcs
  try clear qcr
  try clear qcq
  try clear qcp
  try clear qco
  try clear qcn
  try clear qcm
  try clear qcl
  try clear qck
  try clear qcj
  try clear qci
  try clear qch
  try clear qcg
  try clear qcf
  try clear qce
  try clear qcd
  try clear qcc
  try clear qcb
  try clear qca
  try clear qbz
  try clear qby
  try clear qbx
  try clear qbw
  try clear qbv
  try clear qbu
  try clear qbt
  try clear qbs
  try clear qbr
  try clear qbq
  try clear qbp
  try clear qbo
  try clear qbn
  try clear qbm
  try clear qbl
  try clear qbk
  try clear qbj
  try clear qbi
  try clear qbh
  try clear qbg
  try clear qbf
  try clear qbe
  try clear qbd
  try clear qbc
  try clear qbb
  try clear qba
  try clear qaz
  try clear qay
  try clear qax
  try clear qaw
  try clear qav
  try clear qau
  try clear qat
  try clear qas
  try clear qar
  try clear qaq
  try clear qap
  try clear qao
  try clear qan
  try clear qam
  try clear qal
  try clear qak
  try clear qaj
  try clear qai
  try clear qah
  try clear qag
  try clear qaf
  try clear qae
  try clear qad
  try clear qac
  try clear qab
  try clear qaa
  try clear pz
  try clear px
  try clear pw
  try clear pv
  try clear pu
  try clear pt
  try clear pr
  try clear pq
  try clear pp
  try clear po
  try clear pn
  try clear pm
  try clear pl
  try clear pk
  try clear pj
  try clear pi
  try clear ph
  try clear pg
  try clear pf
  try clear pe
  try clear pd
  try clear pc
  try clear pb
  try clear pa
  try clear gz
  try clear gy
  try clear gx
  try clear gw
  try clear gv
  try clear gu
  try clear gt
  try clear gs
  try clear gr
  try clear gq
  try clear gp
  try clear gn
  try clear gm
  try clear gl
  try clear gj
  try clear gi
  try clear gh
  try clear gg
  try clear gf
  try clear gc
  try clear gb
  try clear ga
  try clear jz
  try clear jy
  try clear jx
  try clear jw
  try clear jv
  try clear ju
  try clear jt
  try clear js
  try clear jr
  try clear jq
  try clear jp
  try clear jo
  try clear jn
  try clear jm
  try clear jl
  try clear jk
  try clear jj
  try clear ji
  try clear jh
  try clear jg
  try clear jf
  try clear je
  try clear jd
  obtain ⟨kq,qcx,rfl,HA,HJ1,qa,HB⟩:=hcut
  cases kq with
  | zero=>exact absurd HA.out (by simp [impl_WorldOk.j0])
  | succ kj1 =>
   have H:=HA.out
   clear HA
   simp only [impl_WorldOk.j0] at H
   by_cases c27 : qcx = true
   ·subst c27
    rw [if_pos rfl] at H
    obtain rfl:=Option.some.inj H
    go_wp2
    go_ret
    exact ⟨by first|rfl|(simp [errW_none,errW_some] <;> rfl)|(simp [*,errW_none,errW_some] <;> rfl),by repeat (first|(with_reducible first|exact HB.out|apply below_alloc|apply pw_below_drewN|apply below_drew1|refine below_set ?_ wi.out)|exact HB.out)⟩
   ·replace c27:=Bool.eq_false_iff.mpr c27
    subst c27
    rw [if_neg (show ¬ (false = true) by decide)] at H
    have H':=Aside0.mk H
    clear H
    have qdl : wc.cell? ⟨qb,0,none⟩ = some (.int .i64 qi):=(blk_cell qa.out 0).trans rfl
    have qdk : wc.cell? ⟨qb,1,none⟩ = some (.int .i64 qk):=(blk_cell qa.out 1).trans rfl
    have qdj : wc.cell? ⟨qb,2,none⟩ = some (.slice qw qj.length qu):=(blk_cell qa.out 2).trans rfl
    have qdi : wc.cell? ⟨qb,3,none⟩ = some (.slice qz qc.length qt):=(blk_cell qa.out 3).trans rfl
    have qdh : wc.cell? ⟨qb,4,none⟩ = some (.slice qy qe.length qr):=(blk_cell qa.out 4).trans rfl
    have qdg : wc.cell? ⟨qb,5,none⟩ = some (.slice qq qh.length qp):=(blk_cell qa.out 5).trans rfl
    have qdf : wc.cell? ⟨qb,6,none⟩ = some (.int .i64 ql):=(blk_cell qa.out 6).trans rfl
    have qde:=blk_frozen qa.out 0
    have qdd:=blk_frozen qa.out 1
    have qdc:=blk_frozen qa.out 2
    have qdb:=blk_frozen qa.out 3
    have qda:=blk_frozen qa.out 4
    have qcz:=blk_frozen qa.out 5
    have qcy:=blk_frozen qa.out 6
    go_wp2
    go_loopg [44] kj1 (fun kq v44 w' => ∃ (qd : Int),v44 = .int .i64 qd ∧ Aside0 (impl_WorldOk.l0 kq qc (qc.length : Int) qd qi qk qj qc qe qh ql = some r) ∧ Aside0 (kq ≤ kj1) ∧ Aside0 (w'.heap[qb]? = some (.cells #[.int .i64 qi,.int .i64 qk,(.slice qw qj.length qu),(.slice qz qc.length qt),(.slice qy qe.length qr),(.slice qq qh.length qp),.int .i64 ql] 69 (0,0))) ∧ Aside0 (Below w.heap.size w w'))
    case atStart=>exact ⟨(0),(by first|rfl|(simp;done)|(simp [*];done)),H',⟨Nat.le_refl _⟩,⟨by (with_reducible repeat (first|refine blk_drewN ?_ _|refine blk_drew ?_|refine blk_alloc ?_ _));exact qa.out⟩,⟨by repeat (first|(with_reducible first|exact HB.out|apply below_alloc|apply pw_below_drewN|apply below_drew1|refine below_set ?_ wi.out)|exact HB.out)⟩⟩
    case round =>
     clear H'
     try clear c1
     try clear c2
     try clear p2
     try clear c4
     try clear c5
     try clear c6
     try clear c7
     try clear c8
     try clear qcu
     try clear qgu
     try clear c9
     try clear qgt
     try clear qgs
     try clear c10
     try clear qdn
     try clear qdm
     try clear c27
     try clear qcs
     try clear qcr
     try clear qcq
     try clear qcp
     try clear qco
     try clear qcn
     try clear qcm
     try clear qcl
     try clear qck
     try clear qcj
     try clear qci
     try clear qch
     try clear qcg
     try clear qcf
     try clear qce
     try clear qcd
     try clear qcc
     try clear qcb
     try clear qca
     try clear qbz
     try clear qby
     try clear qbx
     try clear qbw
     try clear qbv
     try clear qbu
     try clear qbt
     try clear qbs
     try clear qbr
     try clear qbq
     try clear qbp
     try clear qbo
     try clear qbn
     try clear qbm
     try clear qbl
     try clear qbk
     try clear qbj
     try clear qbi
     try clear qbh
     try clear qbg
     try clear qbf
     try clear qbe
     try clear qbd
     try clear qbc
     try clear qbb
     try clear qba
     try clear qaz
     try clear qay
     try clear qax
     try clear qaw
     try clear qav
     try clear qau
     try clear qat
     try clear qas
     try clear qar
     try clear qaq
     try clear qap
     try clear qao
     try clear qan
     try clear qam
     try clear qal
     try clear qak
     try clear qaj
     try clear qai
     try clear qah
     try clear qag
     try clear qaf
     try clear qae
     try clear qad
     try clear qac
     try clear qab
     try clear qdl
     try clear qdk
     try clear qdj
     try clear qdi
     try clear qdh
     try clear qdg
     try clear qdf
     try clear qaa
     try clear pz
     try clear px
     try clear pw
     try clear pv
     try clear pu
     try clear pt
     try clear pr
     try clear pq
     try clear pp
     try clear po
     try clear pn
     try clear pm
     try clear pl
     try clear pk
     try clear pj
     try clear pi
     try clear ph
     try clear pg
     try clear pf
     try clear pe
     try clear pd
     try clear pc
     try clear pb
     try clear pa
     try clear gz
     try clear gy
     try clear gx
     try clear gw
     try clear gv
     try clear gu
     try clear gt
     try clear gs
     try clear gr
     try clear gq
     try clear gp
     try clear gn
     try clear gm
     try clear gl
     try clear gj
     try clear gi
     try clear gh
     try clear gg
     try clear gf
     try clear gc
     try clear gb
     try clear ga
     try clear jz
     try clear jy
     try clear jx
     try clear jw
     try clear jv
     try clear ju
     try clear jt
     try clear js
     try clear jr
     try clear jq
     try clear jp
     try clear jo
     try clear jn
     try clear jm
     try clear jl
     try clear jk
     try clear jj
     try clear ji
     try clear jh
     try clear jg
     try clear jf
     try clear je
     try clear jd
     try clear qde
     try clear qdd
     try clear qdc
     try clear qdb
     try clear qda
     try clear qcz
     try clear qcy
     try clear p2
     obtain ⟨qd,rfl,HA,HK2,qa,HB⟩:=hrel
     cases gk with
     | zero=>exact absurd HA.out (by simp [impl_WorldOk.l0])
     | succ k2 =>
      have H:=HA.out
      clear HA
      simp only [impl_WorldOk.l0] at H
      by_cases c29 : qd < (qc.length : Int)
      ·rw [if_pos c29] at H
       have qhf : decide (qd < (qc.length : Int)) = true:=decide_eq_true c29
       clear c29
       by_cases c30 : 0 ≤ qd
       rotate_left
       ·rw [if_neg c30] at H
        exact absurd H (by simp)
       rw [if_pos c30] at H
       have qhm : decide (0 ≤ qd) = true:=decide_eq_true c30
       clear c30
       by_cases c31 : qd < (qc.length : Int)
       rotate_left
       ·rw [if_neg c31] at H
        exact absurd H (by simp)
       rw [if_pos c31] at H
       have qhl : decide (qd < (qc.length : Int)) = true:=decide_eq_true c31
       clear c31
       replace H:=Option.bind_eq_some_iff.mp H
       obtain ⟨qdv,qhr,H⟩:=H
       replace H : (if qdv = true then (if ((rd_T28 qc qd).f0) = (wrap64 (qd + 1)) then (impl_WorldOk.l0 k2 qc (qc.length : Int) (wrap64 (qd + 1)) qi qk qj qc qe qh ql) else (some false)) else (some false)) = some r:=H
       have A32:=Aside0.mk qhr
       clear qhr
       by_cases c33 : qdv = true
       rotate_left
       ·replace c33:=Bool.eq_false_iff.mpr c33
        subst c33
        rw [if_neg (show ¬ (false = true) by decide)] at H
        obtain rfl:=Option.some.inj H
        have ux : 0 ≤ (qd : Int):=of_decide_eq_true (by first|(with_reducible assumption)|assumption)
        have uw : qd < (qc.length : Int):=of_decide_eq_true (by first|(with_reducible assumption)|assumption)
        obtain ⟨ui,wo,wn,ws,wq,ww,wu,vz,vx,qdq,wh,wg,we,wd,wb,wa,vo,vv,vn,vu,vm,vt,vl,vr⟩:=at_T28 qds.out qd ux uw
        cases qdq
        replace wh:=(HB.out.cell (World.block_lt_of_cell? w _ wh)).trans wh
        replace wg:=(HB.out.cell (World.block_lt_of_cell? w _ wg)).trans wg
        replace we:=(HB.out.cell (World.block_lt_of_cell? w _ we)).trans we
        replace wd:=(HB.out.cell (World.block_lt_of_cell? w _ wd)).trans wd
        replace wb:=(HB.out.cell (World.block_lt_of_cell? w _ wb)).trans wb
        replace wa:=(HB.out.cell (World.block_lt_of_cell? w _ wa)).trans wa
        have uo:=Aside0.mk vv
        have uv:=Aside0.mk vo
        clear vv vo
        have un:=Aside0.mk vu
        have uu:=Aside0.mk vn
        clear vu vn
        have um:=Aside0.mk vt
        have ut:=Aside0.mk vm
        clear vt vm
        have ul:=Aside0.mk vr
        have us:=Aside0.mk vl
        clear vr vl
        replace ux:=eq_true ux
        replace uw:=eq_true uw
        go_wp2_with (first|((with_reducible refine gate_dst (N:=4) rfl ?_);refine box_event ?hg (N:=4) ?hd (cs:=#[.int .i64 0,.int .i64 0,.slice none 0 0,.slice none 0 0,.slice none 0 0,.slice none 0 0]) (t:=28) ?hr ?_;(case hd=>rfl);(case hg=>rfl);(case hr=>first|(go_simp;done)|(go_simp;rfl));intro qn hg w45 hbox hb;have n0_:=Aside0.mk (blk_below (g:=qb) (o:=.cells #[.int .i64 qi,.int .i64 qk,.slice qw qj.length qu,.slice (some ui) qc.length qt,.slice qy qe.length qr,.slice qq qh.length qp,.int .i64 ql] 69 (0,0)) z37x14 hb);have n1_:=Aside0.mk (below_step z37x11 hb);have n2_:=Aside0.mk (hbox);have n3_:=Aside0.mk ((z37x10 : w.heap.size ≤ qn));have n4_:=Aside0.mk ((z37x10 : w.heap.size ≤ qn));have n5_:=Aside0.mk ((z37x6 : qb ≠ qn));have n6_:=Aside0.mk ((z37x4 : qn ≠ qb));clear qa;clear HB;have qa:=n0_;have HB:=n1_;have qg:=n2_;have qhh:=n3_;have jc:=n4_;have qv:=n5_;have ub:=n6_;clear n0_ n1_ n2_ n3_ n4_ n5_ n6_;clear hb hbox hg;have qkf:=ub.out;have qjz:=qv.out;have qft : w45.cell? ⟨qn,0,none⟩ = some (.int .i64 0):=(blk_cell qg.out 0).trans rfl;have qfs : w45.cell? ⟨qn,1,none⟩ = some (.int .i64 0):=(blk_cell qg.out 1).trans rfl;have qfr : w45.cell? ⟨qn,2,none⟩ = some (.slice none 0 0):=(blk_cell qg.out 2).trans rfl;have qfq : w45.cell? ⟨qn,3,none⟩ = some (.slice none 0 0):=(blk_cell qg.out 3).trans rfl;have qfp : w45.cell? ⟨qn,4,none⟩ = some (.slice none 0 0):=(blk_cell qg.out 4).trans rfl;have qfo : w45.cell? ⟨qn,5,none⟩ = some (.slice none 0 0):=(blk_cell qg.out 5).trans rfl;have qei:=blk_frozen qg.out 0;have qeh:=blk_frozen qg.out 1;have qeg:=blk_frozen qg.out 2;have qef:=blk_frozen qg.out 3;have qee:=blk_frozen qg.out 4;have qed:=blk_frozen qg.out 5)|((with_reducible refine gate_callee (f:=17) rfl ?_);refine goesL_ (some 50) rfl rfl Try.func17 (by kernel_rfl) rfl #[.agg #[.int .i64 ((rd_T28 qc qd).f0),.int .i64 ((rd_T28 qc qd).f1),.slice wo ((rd_T28 qc qd).f2).length wn,.slice ws ((rd_T28 qc qd).f3).length wq,.slice ww ((rd_T28 qc qd).f4).length wu,.slice vz ((rd_T28 qc qd).f5).length vx]] rfl z37x12 ?_;(with_reducible refine (impl_ClientOk.calls ((rd_T28 qc qd).f0) ((rd_T28 qc qd).f1) _ _ ((rd_T28 qc qd).f2) _ _ ((rd_T28 qc qd).f3) _ _ ((rd_T28 qc qd).f4) _ _ ((rd_T28 qc qd).f5) false _ ?side1 ?side2 ?side3 ?side4 ?side5 ?side6 ?side7 ?side8 A32.out).mono ?_);(case side1=>exact Kd.C_below uo.out z37x8);(case side2=>exact uv.out);(case side3=>exact Kd.C_below un.out z37x8);(case side4=>exact uu.out);(case side5=>exact Kd.C_below um.out z37x8);(case side6=>exact ut.out);(case side7=>exact Kd.C_below ul.out z37x8);(case side8=>exact us.out);rintro e w48 ⟨rfl,hb⟩; refine ⟨_,rfl,?_⟩; have n0_:=Aside0.mk (blk_below (g:=qb) (o:=.cells #[.int .i64 qi,.int .i64 qk,.slice qw qj.length qu,.slice (some ui) qc.length qt,.slice qy qe.length qr,.slice qq qh.length qp,.int .i64 ql] 69 (0,0)) z37x2 hb);have n1_:=Aside0.mk (blk_below (g:=qn) (o:=.cells #[.int .i64 ((rd_T28 qc qd).f0),.int .i64 ((rd_T28 qc qd).f1),.slice wo ((rd_T28 qc qd).f2).length wn,.slice ws ((rd_T28 qc qd).f3).length wq,.slice ww ((rd_T28 qc qd).f4).length wu,.slice vz ((rd_T28 qc qd).f5).length vx] 28 (0,0)) z37x0 hb);have n2_:=Aside0.mk (below_step z37x8 hb);clear qa;clear qg;clear HB;have qa:=n0_;have qg:=n1_;have HB:=n2_;clear n0_ n1_ n2_;(try clear hb);(try clear hb2);(try clear hk);(try clear hi)))
        go_ret
        exact ⟨by first|rfl|(simp [errW_none,errW_some] <;> rfl)|(simp [*,errW_none,errW_some] <;> rfl),by repeat (first|(with_reducible first|exact HB.out|apply below_alloc|apply pw_below_drewN|apply below_drew1|refine below_set ?_ wi.out|refine below_set ?_ jc.out)|exact HB.out)⟩
       subst c33
       rw [if_pos rfl] at H
       by_cases c34 : ((rd_T28 qc qd).f0) = (wrap64 (qd + 1))
       rotate_left
       ·rw [if_neg c34] at H
        have qhe : (((rd_T28 qc qd).f0) == (wrap64 (qd + 1))) = false:=beq_eq_false_iff_ne.mpr c34
        have qhd : (((rd_T28 qc qd).f0) != (wrap64 (qd + 1))) = true:=bne_iff_ne.mpr c34
        obtain rfl:=Option.some.inj H
        have ux : 0 ≤ (qd : Int):=of_decide_eq_true (by first|(with_reducible assumption)|assumption)
        have uw : qd < (qc.length : Int):=of_decide_eq_true (by first|(with_reducible assumption)|assumption)
        obtain ⟨ui,wo,wn,ws,wq,ww,wu,vz,vx,qdq,wh,wg,we,wd,wb,wa,vo,vv,vn,vu,vm,vt,vl,vr⟩:=at_T28 qds.out qd ux uw
        cases qdq
        replace wh:=(HB.out.cell (World.block_lt_of_cell? w _ wh)).trans wh
        replace wg:=(HB.out.cell (World.block_lt_of_cell? w _ wg)).trans wg
        replace we:=(HB.out.cell (World.block_lt_of_cell? w _ we)).trans we
        replace wd:=(HB.out.cell (World.block_lt_of_cell? w _ wd)).trans wd
        replace wb:=(HB.out.cell (World.block_lt_of_cell? w _ wb)).trans wb
        replace wa:=(HB.out.cell (World.block_lt_of_cell? w _ wa)).trans wa
        have uo:=Aside0.mk vv
        have uv:=Aside0.mk vo
        clear vv vo
        have un:=Aside0.mk vu
        have uu:=Aside0.mk vn
        clear vu vn
        have um:=Aside0.mk vt
        have ut:=Aside0.mk vm
        clear vt vm
        have ul:=Aside0.mk vr
        have us:=Aside0.mk vl
        clear vr vl
        replace ux:=eq_true ux
        replace uw:=eq_true uw
        go_wp2_with (first|((with_reducible refine gate_dst (N:=4) rfl ?_);refine box_event ?hg (N:=4) ?hd (cs:=#[.int .i64 0,.int .i64 0,.slice none 0 0,.slice none 0 0,.slice none 0 0,.slice none 0 0]) (t:=28) ?hr ?_;(case hd=>rfl);(case hg=>rfl);(case hr=>first|(go_simp;done)|(go_simp;rfl));intro qn hg w40 hbox hb;have n0_:=Aside0.mk (blk_below (g:=qb) (o:=.cells #[.int .i64 qi,.int .i64 qk,.slice qw qj.length qu,.slice (some ui) qc.length qt,.slice qy qe.length qr,.slice qq qh.length qp,.int .i64 ql] 69 (0,0)) z37x14 hb);have n1_:=Aside0.mk (below_step z37x11 hb);have n2_:=Aside0.mk (hbox);have n3_:=Aside0.mk ((z37x10 : w.heap.size ≤ qn));have n4_:=Aside0.mk ((z37x10 : w.heap.size ≤ qn));have n5_:=Aside0.mk ((z37x6 : qb ≠ qn));have n6_:=Aside0.mk ((z37x4 : qn ≠ qb));clear qa;clear HB;have qa:=n0_;have HB:=n1_;have qg:=n2_;have qhh:=n3_;have jc:=n4_;have qv:=n5_;have ub:=n6_;clear n0_ n1_ n2_ n3_ n4_ n5_ n6_;clear hb hbox hg;have qkg:=ub.out;have qka:=qv.out;have qgf : w40.cell? ⟨qn,0,none⟩ = some (.int .i64 0):=(blk_cell qg.out 0).trans rfl;have qge : w40.cell? ⟨qn,1,none⟩ = some (.int .i64 0):=(blk_cell qg.out 1).trans rfl;have qgd : w40.cell? ⟨qn,2,none⟩ = some (.slice none 0 0):=(blk_cell qg.out 2).trans rfl;have qgc : w40.cell? ⟨qn,3,none⟩ = some (.slice none 0 0):=(blk_cell qg.out 3).trans rfl;have qgb : w40.cell? ⟨qn,4,none⟩ = some (.slice none 0 0):=(blk_cell qg.out 4).trans rfl;have qga : w40.cell? ⟨qn,5,none⟩ = some (.slice none 0 0):=(blk_cell qg.out 5).trans rfl;have qeu:=blk_frozen qg.out 0;have qet:=blk_frozen qg.out 1;have qes:=blk_frozen qg.out 2;have qer:=blk_frozen qg.out 3;have qeq:=blk_frozen qg.out 4;have qep:=blk_frozen qg.out 5)|((with_reducible refine gate_callee (f:=17) rfl ?_);refine goesL_ (some 50) rfl rfl Try.func17 (by kernel_rfl) rfl #[.agg #[.int .i64 ((rd_T28 qc qd).f0),.int .i64 ((rd_T28 qc qd).f1),.slice wo ((rd_T28 qc qd).f2).length wn,.slice ws ((rd_T28 qc qd).f3).length wq,.slice ww ((rd_T28 qc qd).f4).length wu,.slice vz ((rd_T28 qc qd).f5).length vx]] rfl z37x12 ?_;(with_reducible refine (impl_ClientOk.calls ((rd_T28 qc qd).f0) ((rd_T28 qc qd).f1) _ _ ((rd_T28 qc qd).f2) _ _ ((rd_T28 qc qd).f3) _ _ ((rd_T28 qc qd).f4) _ _ ((rd_T28 qc qd).f5) true _ ?side1 ?side2 ?side3 ?side4 ?side5 ?side6 ?side7 ?side8 A32.out).mono ?_);(case side1=>exact Kd.C_below uo.out z37x8);(case side2=>exact uv.out);(case side3=>exact Kd.C_below un.out z37x8);(case side4=>exact uu.out);(case side5=>exact Kd.C_below um.out z37x8);(case side6=>exact ut.out);(case side7=>exact Kd.C_below ul.out z37x8);(case side8=>exact us.out);rintro e w43 ⟨rfl,hb⟩; refine ⟨_,rfl,?_⟩; have n0_:=Aside0.mk (blk_below (g:=qb) (o:=.cells #[.int .i64 qi,.int .i64 qk,.slice qw qj.length qu,.slice (some ui) qc.length qt,.slice qy qe.length qr,.slice qq qh.length qp,.int .i64 ql] 69 (0,0)) z37x2 hb);have n1_:=Aside0.mk (blk_below (g:=qn) (o:=.cells #[.int .i64 ((rd_T28 qc qd).f0),.int .i64 ((rd_T28 qc qd).f1),.slice wo ((rd_T28 qc qd).f2).length wn,.slice ws ((rd_T28 qc qd).f3).length wq,.slice ww ((rd_T28 qc qd).f4).length wu,.slice vz ((rd_T28 qc qd).f5).length vx] 28 (0,0)) z37x0 hb);have n2_:=Aside0.mk (below_step z37x8 hb);clear qa;clear qg;clear HB;have qa:=n0_;have qg:=n1_;have HB:=n2_;clear n0_ n1_ n2_;(try clear hb);(try clear hb2);(try clear hk);(try clear hi);have qfz : w43.cell? ⟨qn,0,none⟩ = some (.int .i64 ((rd_T28 qc qd).f0)):=(blk_cell qg.out 0).trans rfl;have qfy : w43.cell? ⟨qn,1,none⟩ = some (.int .i64 ((rd_T28 qc qd).f1)):=(blk_cell qg.out 1).trans rfl;have qfx : w43.cell? ⟨qn,2,none⟩ = some (.slice wo ((rd_T28 qc qd).f2).length wn):=(blk_cell qg.out 2).trans rfl;have qfw : w43.cell? ⟨qn,3,none⟩ = some (.slice ws ((rd_T28 qc qd).f3).length wq):=(blk_cell qg.out 3).trans rfl;have qfv : w43.cell? ⟨qn,4,none⟩ = some (.slice ww ((rd_T28 qc qd).f4).length wu):=(blk_cell qg.out 4).trans rfl;have qfu : w43.cell? ⟨qn,5,none⟩ = some (.slice vz ((rd_T28 qc qd).f5).length vx):=(blk_cell qg.out 5).trans rfl;have qeo:=blk_frozen qg.out 0;have qen:=blk_frozen qg.out 1;have qem:=blk_frozen qg.out 2;have qel:=blk_frozen qg.out 3;have qek:=blk_frozen qg.out 4;have qej:=blk_frozen qg.out 5))
        go_ret
        exact ⟨by first|rfl|(simp [errW_none,errW_some] <;> rfl)|(simp [*,errW_none,errW_some] <;> rfl),by repeat (first|(with_reducible first|exact HB.out|apply below_alloc|apply pw_below_drewN|apply below_drew1|refine below_set ?_ wi.out|refine below_set ?_ jc.out)|exact HB.out)⟩
       rw [if_pos c34] at H
       have qhe : (((rd_T28 qc qd).f0) == (wrap64 (qd + 1))) = true:=beq_iff_eq.mpr c34
       have qhd : (((rd_T28 qc qd).f0) != (wrap64 (qd + 1))) = false:=bne_eq_false_iff_eq.mpr c34
       clear c34
       have H':=Aside0.mk H
       clear H
       have ux : 0 ≤ (qd : Int):=of_decide_eq_true (by first|(with_reducible assumption)|assumption)
       have uw : qd < (qc.length : Int):=of_decide_eq_true (by first|(with_reducible assumption)|assumption)
       obtain ⟨ui,wo,wn,ws,wq,ww,wu,vz,vx,qdq,wh,wg,we,wd,wb,wa,vo,vv,vn,vu,vm,vt,vl,vr⟩:=at_T28 qds.out qd ux uw
       cases qdq
       replace wh:=(HB.out.cell (World.block_lt_of_cell? w _ wh)).trans wh
       replace wg:=(HB.out.cell (World.block_lt_of_cell? w _ wg)).trans wg
       replace we:=(HB.out.cell (World.block_lt_of_cell? w _ we)).trans we
       replace wd:=(HB.out.cell (World.block_lt_of_cell? w _ wd)).trans wd
       replace wb:=(HB.out.cell (World.block_lt_of_cell? w _ wb)).trans wb
       replace wa:=(HB.out.cell (World.block_lt_of_cell? w _ wa)).trans wa
       have uo:=Aside0.mk vv
       have uv:=Aside0.mk vo
       clear vv vo
       have un:=Aside0.mk vu
       have uu:=Aside0.mk vn
       clear vu vn
       have um:=Aside0.mk vt
       have ut:=Aside0.mk vm
       clear vt vm
       have ul:=Aside0.mk vr
       have us:=Aside0.mk vl
       clear vr vl
       replace ux:=eq_true ux
       replace uw:=eq_true uw
       go_wp2_with (first|((with_reducible refine gate_dst (N:=4) rfl ?_);refine box_event ?hg (N:=4) ?hd (cs:=#[.int .i64 0,.int .i64 0,.slice none 0 0,.slice none 0 0,.slice none 0 0,.slice none 0 0]) (t:=28) ?hr ?_;(case hd=>rfl);(case hg=>rfl);(case hr=>first|(go_simp;done)|(go_simp;rfl));intro qn hg w35 hbox hb;have n0_:=Aside0.mk (blk_below (g:=qb) (o:=.cells #[.int .i64 qi,.int .i64 qk,.slice qw qj.length qu,.slice (some ui) qc.length qt,.slice qy qe.length qr,.slice qq qh.length qp,.int .i64 ql] 69 (0,0)) z37x14 hb);have n1_:=Aside0.mk (below_step z37x11 hb);have n2_:=Aside0.mk (hbox);have n3_:=Aside0.mk ((z37x10 : w.heap.size ≤ qn));have n4_:=Aside0.mk ((z37x10 : w.heap.size ≤ qn));have n5_:=Aside0.mk ((z37x6 : qb ≠ qn));have n6_:=Aside0.mk ((z37x4 : qn ≠ qb));clear qa;clear HB;have qa:=n0_;have HB:=n1_;have qg:=n2_;have qhh:=n3_;have jc:=n4_;have qv:=n5_;have ub:=n6_;clear n0_ n1_ n2_ n3_ n4_ n5_ n6_;clear hb hbox hg;have qkh:=ub.out;have qkb:=qv.out;have qgr : w35.cell? ⟨qn,0,none⟩ = some (.int .i64 0):=(blk_cell qg.out 0).trans rfl;have qgq : w35.cell? ⟨qn,1,none⟩ = some (.int .i64 0):=(blk_cell qg.out 1).trans rfl;have qgp : w35.cell? ⟨qn,2,none⟩ = some (.slice none 0 0):=(blk_cell qg.out 2).trans rfl;have qgo : w35.cell? ⟨qn,3,none⟩ = some (.slice none 0 0):=(blk_cell qg.out 3).trans rfl;have qgn : w35.cell? ⟨qn,4,none⟩ = some (.slice none 0 0):=(blk_cell qg.out 4).trans rfl;have qgm : w35.cell? ⟨qn,5,none⟩ = some (.slice none 0 0):=(blk_cell qg.out 5).trans rfl;have qfg:=blk_frozen qg.out 0;have qff:=blk_frozen qg.out 1;have qfe:=blk_frozen qg.out 2;have qfd:=blk_frozen qg.out 3;have qfc:=blk_frozen qg.out 4;have qfb:=blk_frozen qg.out 5)|((with_reducible refine gate_callee (f:=17) rfl ?_);refine goesL_ (some 50) rfl rfl Try.func17 (by kernel_rfl) rfl #[.agg #[.int .i64 ((rd_T28 qc qd).f0),.int .i64 ((rd_T28 qc qd).f1),.slice wo ((rd_T28 qc qd).f2).length wn,.slice ws ((rd_T28 qc qd).f3).length wq,.slice ww ((rd_T28 qc qd).f4).length wu,.slice vz ((rd_T28 qc qd).f5).length vx]] rfl z37x12 ?_;(with_reducible refine (impl_ClientOk.calls ((rd_T28 qc qd).f0) ((rd_T28 qc qd).f1) _ _ ((rd_T28 qc qd).f2) _ _ ((rd_T28 qc qd).f3) _ _ ((rd_T28 qc qd).f4) _ _ ((rd_T28 qc qd).f5) true _ ?side1 ?side2 ?side3 ?side4 ?side5 ?side6 ?side7 ?side8 A32.out).mono ?_);(case side1=>exact Kd.C_below uo.out z37x8);(case side2=>exact uv.out);(case side3=>exact Kd.C_below un.out z37x8);(case side4=>exact uu.out);(case side5=>exact Kd.C_below um.out z37x8);(case side6=>exact ut.out);(case side7=>exact Kd.C_below ul.out z37x8);(case side8=>exact us.out);rintro e w38 ⟨rfl,hb⟩; refine ⟨_,rfl,?_⟩; have n0_:=Aside0.mk (blk_below (g:=qb) (o:=.cells #[.int .i64 qi,.int .i64 qk,.slice qw qj.length qu,.slice (some ui) qc.length qt,.slice qy qe.length qr,.slice qq qh.length qp,.int .i64 ql] 69 (0,0)) z37x2 hb);have n1_:=Aside0.mk (blk_below (g:=qn) (o:=.cells #[.int .i64 ((rd_T28 qc qd).f0),.int .i64 ((rd_T28 qc qd).f1),.slice wo ((rd_T28 qc qd).f2).length wn,.slice ws ((rd_T28 qc qd).f3).length wq,.slice ww ((rd_T28 qc qd).f4).length wu,.slice vz ((rd_T28 qc qd).f5).length vx] 28 (0,0)) z37x0 hb);have n2_:=Aside0.mk (below_step z37x8 hb);clear qa;clear qg;clear HB;have qa:=n0_;have qg:=n1_;have HB:=n2_;clear n0_ n1_ n2_;(try clear hb);(try clear hb2);(try clear hk);(try clear hi);have qgl : w38.cell? ⟨qn,0,none⟩ = some (.int .i64 ((rd_T28 qc qd).f0)):=(blk_cell qg.out 0).trans rfl;have qgk : w38.cell? ⟨qn,1,none⟩ = some (.int .i64 ((rd_T28 qc qd).f1)):=(blk_cell qg.out 1).trans rfl;have qgj : w38.cell? ⟨qn,2,none⟩ = some (.slice wo ((rd_T28 qc qd).f2).length wn):=(blk_cell qg.out 2).trans rfl;have qgi : w38.cell? ⟨qn,3,none⟩ = some (.slice ws ((rd_T28 qc qd).f3).length wq):=(blk_cell qg.out 3).trans rfl;have qgh : w38.cell? ⟨qn,4,none⟩ = some (.slice ww ((rd_T28 qc qd).f4).length wu):=(blk_cell qg.out 4).trans rfl;have qgg : w38.cell? ⟨qn,5,none⟩ = some (.slice vz ((rd_T28 qc qd).f5).length vx):=(blk_cell qg.out 5).trans rfl;have qfa:=blk_frozen qg.out 0;have qez:=blk_frozen qg.out 1;have qey:=blk_frozen qg.out 2;have qex:=blk_frozen qg.out 3;have qew:=blk_frozen qg.out 4;have qev:=blk_frozen qg.out 5))
       go_roundg k2
       case measure=>have:=HJ1.out;have:=HK2.out;omega
       case rel=>exact ⟨(wrap64 (qd + 1)),(by first|rfl|(simp;done)|(simp [*];done)),H',⟨by have:=HJ1.out;have:=HK2.out;omega⟩,⟨by (with_reducible repeat (first|refine blk_drewN ?_ _|refine blk_drew ?_|refine blk_alloc ?_ _));exact qa.out⟩,⟨by repeat (first|(with_reducible first|exact HB.out|apply below_alloc|apply pw_below_drewN|apply below_drew1|refine below_set ?_ wi.out|refine below_set ?_ jc.out)|exact HB.out)⟩⟩
      ·rw [if_neg c29] at H
       have qhf : decide (qd < (qc.length : Int)) = false:=decide_eq_false c29
       clear c29
       have H':=Aside0.mk H
       clear H
       have qfn : wr.cell? ⟨qb,0,none⟩ = some (.int .i64 qi):=(blk_cell qa.out 0).trans rfl
       have qfm : wr.cell? ⟨qb,1,none⟩ = some (.int .i64 qk):=(blk_cell qa.out 1).trans rfl
       have qfl : wr.cell? ⟨qb,2,none⟩ = some (.slice qw qj.length qu):=(blk_cell qa.out 2).trans rfl
       have qfk : wr.cell? ⟨qb,3,none⟩ = some (.slice qz qc.length qt):=(blk_cell qa.out 3).trans rfl
       have qfj : wr.cell? ⟨qb,4,none⟩ = some (.slice qy qe.length qr):=(blk_cell qa.out 4).trans rfl
       have qfi : wr.cell? ⟨qb,5,none⟩ = some (.slice qq qh.length qp):=(blk_cell qa.out 5).trans rfl
       have qfh : wr.cell? ⟨qb,6,none⟩ = some (.int .i64 ql):=(blk_cell qa.out 6).trans rfl
       have qec:=blk_frozen qa.out 0
       have qeb:=blk_frozen qa.out 1
       have qea:=blk_frozen qa.out 2
       have qdz:=blk_frozen qa.out 3
       have qdy:=blk_frozen qa.out 4
       have qdx:=blk_frozen qa.out 5
       have qdw:=blk_frozen qa.out 6
       go_wp2
       go_loopg [63] k2 (fun kq v63 w' => ∃ (qf : Int),v63 = .int .i64 qf ∧ Aside0 (impl_WorldOk.l1 kq qe (qe.length : Int) qf qi qk qj qc qe qh ql = some r) ∧ Aside0 (kq ≤ k2) ∧ Aside0 (w'.heap[qb]? = some (.cells #[.int .i64 qi,.int .i64 qk,(.slice qw qj.length qu),(.slice qz qc.length qt),(.slice qy qe.length qr),(.slice qq qh.length qp),.int .i64 ql] 69 (0,0))) ∧ Aside0 (Below w.heap.size w w'))
       case atStart=>exact ⟨(0),(by first|rfl|(simp;done)|(simp [*];done)),H',⟨Nat.le_refl _⟩,⟨by (with_reducible repeat (first|refine blk_drewN ?_ _|refine blk_drew ?_|refine blk_alloc ?_ _));exact qa.out⟩,⟨by repeat (first|(with_reducible first|exact HB.out|apply below_alloc|apply pw_below_drewN|apply below_drew1|refine below_set ?_ wi.out)|exact HB.out)⟩⟩
       case round =>
        clear H'
        try clear c1
        try clear c2
        try clear p2
        try clear q2
        try clear hx2
        try clear c3
        try clear c4
        try clear c5
        try clear c6
        try clear p6
        try clear c7
        try clear c8
        try clear qcu
        try clear qgu
        try clear c9
        try clear qgt
        try clear qgs
        try clear c10
        try clear qdn
        try clear qdm
        try clear c17
        try clear c27
        try clear p27
        try clear q27
        try clear qkn
        try clear c29
        try clear qhf
        try clear c30
        try clear qhm
        try clear c31
        try clear qhl
        try clear c33
        try clear c34
        try clear qhe
        try clear qhd
        try clear c36
        try clear c41
        try clear c46
        try clear qcs
        try clear qcr
        try clear qcq
        try clear qcp
        try clear qco
        try clear qcn
        try clear qcm
        try clear qcl
        try clear qck
        try clear qcj
        try clear qci
        try clear qch
        try clear qcg
        try clear qcf
        try clear qce
        try clear qcd
        try clear qcc
        try clear qcb
        try clear qca
        try clear qbz
        try clear qby
        try clear qbx
        try clear qbw
        try clear qbv
        try clear qbu
        try clear qbt
        try clear qbs
        try clear qbr
        try clear qbq
        try clear qbp
        try clear qbo
        try clear qbn
        try clear qbm
        try clear qbl
        try clear qbk
        try clear qbj
        try clear qbi
        try clear qbh
        try clear qbg
        try clear qbf
        try clear qbe
        try clear qbd
        try clear qbc
        try clear qbb
        try clear qba
        try clear qaz
        try clear qay
        try clear qax
        try clear qaw
        try clear qav
        try clear qau
        try clear qat
        try clear qas
        try clear qar
        try clear qaq
        try clear qap
        try clear qao
        try clear qan
        try clear qam
        try clear qal
        try clear qak
        try clear qaj
        try clear qai
        try clear qah
        try clear qag
        try clear qaf
        try clear qae
        try clear qad
        try clear qac
        try clear qab
        try clear qdl
        try clear qdk
        try clear qdj
        try clear qdi
        try clear qdh
        try clear qdg
        try clear qdf
        try clear qgr
        try clear qgq
        try clear qgp
        try clear qgo
        try clear qgn
        try clear qgm
        try clear qgl
        try clear qgk
        try clear qgj
        try clear qgi
        try clear qgh
        try clear qgg
        try clear qgf
        try clear qge
        try clear qgd
        try clear qgc
        try clear qgb
        try clear qga
        try clear qfz
        try clear qfy
        try clear qfx
        try clear qfw
        try clear qfv
        try clear qfu
        try clear qft
        try clear qfs
        try clear qfr
        try clear qfq
        try clear qfp
        try clear qfo
        try clear qfn
        try clear qfm
        try clear qfl
        try clear qfk
        try clear qfj
        try clear qfi
        try clear qfh
        try clear qaa
        try clear pz
        try clear px
        try clear pw
        try clear pv
        try clear pu
        try clear pt
        try clear pr
        try clear pq
        try clear pp
        try clear po
        try clear pn
        try clear pm
        try clear pl
        try clear pk
        try clear pj
        try clear pi
        try clear ph
        try clear pg
        try clear pf
        try clear pe
        try clear pd
        try clear pc
        try clear pb
        try clear pa
        try clear gz
        try clear gy
        try clear gx
        try clear gw
        try clear gv
        try clear gu
        try clear gt
        try clear gs
        try clear gr
        try clear gq
        try clear gp
        try clear gn
        try clear gm
        try clear gl
        try clear gj
        try clear gi
        try clear gh
        try clear gg
        try clear gf
        try clear gc
        try clear gb
        try clear ga
        try clear jz
        try clear jy
        try clear jx
        try clear jw
        try clear jv
        try clear ju
        try clear jt
        try clear js
        try clear jr
        try clear jq
        try clear jp
        try clear jo
        try clear jn
        try clear jm
        try clear jl
        try clear jk
        try clear jj
        try clear ji
        try clear jh
        try clear jg
        try clear jf
        try clear je
        try clear jd
        try clear qde
        try clear qdd
        try clear qdc
        try clear qdb
        try clear qda
        try clear qcz
        try clear qcy
        try clear qfg
        try clear qff
        try clear qfe
        try clear qfd
        try clear qfc
        try clear qfb
        try clear qfa
        try clear qez
        try clear qey
        try clear qex
        try clear qew
        try clear qev
        try clear qeu
        try clear qet
        try clear qes
        try clear qer
        try clear qeq
        try clear qep
        try clear qeo
        try clear qen
        try clear qem
        try clear qel
        try clear qek
        try clear qej
        try clear qei
        try clear qeh
        try clear qeg
        try clear qef
        try clear qee
        try clear qed
        try clear qec
        try clear qeb
        try clear qea
        try clear qdz
        try clear qdy
        try clear qdx
        try clear qdw
        try clear wh
        try clear wg
        try clear we
        try clear wd
        try clear wb
        try clear wa
        try clear p2
        try clear ux
        try clear uw
        obtain ⟨qf,rfl,HA,HK3,qa,HB⟩:=hrel
        cases gk with
        | zero=>exact absurd HA.out (by simp [impl_WorldOk.l1])
        | succ k3 =>
         have H:=HA.out
         clear HA
         simp only [impl_WorldOk.l1] at H
         by_cases c50 : qf < (qe.length : Int)
         rotate_left
         ·rw [if_neg c50] at H
          have qhk : decide (qf < (qe.length : Int)) = false:=decide_eq_false c50
          clear c50
          replace H:=Option.bind_eq_some_iff.mp H
          obtain ⟨qdt,qhp,H⟩:=H
          replace H : (some (!qdt)) = some r:=H
          have A70:=Aside0.mk qhp
          clear qhp
          obtain rfl:=Option.some.inj H
          have qja : wr.cell? ⟨qb,0,none⟩ = some (.int .i64 qi):=(blk_cell qa.out 0).trans rfl
          have qiz : wr.cell? ⟨qb,1,none⟩ = some (.int .i64 qk):=(blk_cell qa.out 1).trans rfl
          have qiy : wr.cell? ⟨qb,2,none⟩ = some (.slice qw qj.length qu):=(blk_cell qa.out 2).trans rfl
          have qix : wr.cell? ⟨qb,3,none⟩ = some (.slice qz qc.length qt):=(blk_cell qa.out 3).trans rfl
          have qiw : wr.cell? ⟨qb,4,none⟩ = some (.slice qy qe.length qr):=(blk_cell qa.out 4).trans rfl
          have qiv : wr.cell? ⟨qb,5,none⟩ = some (.slice qq qh.length qp):=(blk_cell qa.out 5).trans rfl
          have qiu : wr.cell? ⟨qb,6,none⟩ = some (.int .i64 ql):=(blk_cell qa.out 6).trans rfl
          have qhz:=blk_frozen qa.out 0
          have qhy:=blk_frozen qa.out 1
          have qhx:=blk_frozen qa.out 2
          have qhw:=blk_frozen qa.out 3
          have qhv:=blk_frozen qa.out 4
          have qhu:=blk_frozen qa.out 5
          have qht:=blk_frozen qa.out 6
          go_wp2_with (first|((with_reducible refine gate_callee (f:=109) rfl ?_);refine goesL_ (some 81) rfl rfl Try.func109 (by kernel_rfl) rfl #[.slice qq qh.length qp,.func (Fn.func 110) #[] #[]] rfl z37x12 ?_;(with_reducible refine (impl_Msg_109.calls _ _ qh qdt _ ?side1 ?side2 A70.out).mono ?_);(case side1=>repeat (first|exact (Kd.C_below qhn.out HB.out)|(with_reducible refine Kd.C_alloc ?_ _)|(with_reducible refine Kd.C_drewN ?_ _)|(with_reducible refine Kd.C_drew ?_)));(case side2=>exact qho.out);rintro e w72 ⟨rfl,hb⟩; refine ⟨_,rfl,?_⟩; have n0_:=Aside0.mk (blk_below (g:=qb) (o:=.cells #[.int .i64 qi,.int .i64 qk,.slice qw qj.length qu,.slice qz qc.length qt,.slice qy qe.length qr,.slice qq qh.length qp,.int .i64 ql] 69 (0,0)) z37x14 hb);have n1_:=Aside0.mk (below_step z37x11 hb);clear qa;clear HB;have qa:=n0_;have HB:=n1_;clear n0_ n1_;(try clear hb);(try clear hb2);(try clear hk);(try clear hi)))
          go_ret
          exact ⟨by first|rfl|(simp [errW_none,errW_some] <;> rfl)|(simp [*,errW_none,errW_some] <;> rfl),by repeat (first|(with_reducible first|exact HB.out|apply below_alloc|apply pw_below_drewN|apply below_drew1|refine below_set ?_ wi.out)|exact HB.out)⟩
         rw [if_pos c50] at H
         have qhk : decide (qf < (qe.length : Int)) = true:=decide_eq_true c50
         clear c50
         by_cases c51 : 0 ≤ qf
         rotate_left
         ·rw [if_neg c51] at H
          exact absurd H (by simp)
         rw [if_pos c51] at H
         have qkj : decide (0 ≤ qf) = true:=decide_eq_true c51
         clear c51
         by_cases c52 : qf < (qe.length : Int)
         rotate_left
         ·rw [if_neg c52] at H
          exact absurd H (by simp)
         rw [if_pos c52] at H
         have qki : decide (qf < (qe.length : Int)) = true:=decide_eq_true c52
         clear c52
         replace H:=Option.bind_eq_some_iff.mp H
         obtain ⟨qdu,qhq,H⟩:=H
         replace H : (if qdu = true then (if ((rd_T128 qe qf).f0) = (wrap64 (qf + 4)) then (impl_WorldOk.l1 k3 qe (qe.length : Int) (wrap64 (qf + 1)) qi qk qj qc qe qh ql) else (some false)) else (some false)) = some r:=H
         have A53:=Aside0.mk qhq
         clear qhq
         by_cases c54 : qdu = true
         rotate_left
         ·replace c54:=Bool.eq_false_iff.mpr c54
          subst c54
          rw [if_neg (show ¬ (false = true) by decide)] at H
          obtain rfl:=Option.some.inj H
          have ja : 0 ≤ (qf : Int):=of_decide_eq_true (by first|(with_reducible assumption)|assumption)
          have uz : qf < (qe.length : Int):=of_decide_eq_true (by first|(with_reducible assumption)|assumption)
          obtain ⟨uh,wv,wt,vy,vw,qdp,wm,wl,wk,wj,vk,vq,wz,vp⟩:=at_T128 qdr.out qf ja uz
          cases qdp
          replace wm:=(HB.out.cell (World.block_lt_of_cell? w _ wm)).trans wm
          replace wl:=(HB.out.cell (World.block_lt_of_cell? w _ wl)).trans wl
          replace wk:=(HB.out.cell (World.block_lt_of_cell? w _ wk)).trans wk
          replace wj:=(HB.out.cell (World.block_lt_of_cell? w _ wj)).trans wj
          have uk:=Aside0.mk vq
          have ur:=Aside0.mk vk
          clear vq vk
          have uj:=Aside0.mk vp
          have uq:=Aside0.mk wz
          clear vp wz
          replace ja:=eq_true ja
          replace uz:=eq_true uz
          go_wp2_with (first|((with_reducible refine gate_dst (N:=6) rfl ?_);refine box_event ?hg (N:=6) ?hd (cs:=#[.int .i64 0,.int .i64 0,.slice none 0 0,.slice none 0 0]) (t:=128) ?hr ?_;(case hd=>rfl);(case hg=>rfl);(case hr=>first|(go_simp;done)|(go_simp;rfl));intro qo hg w66 hbox hb;have n0_:=Aside0.mk (blk_below (g:=qb) (o:=.cells #[.int .i64 qi,.int .i64 qk,.slice qw qj.length qu,.slice qz qc.length qt,.slice (some uh) qe.length qr,.slice qq qh.length qp,.int .i64 ql] 69 (0,0)) z37x14 hb);have n1_:=Aside0.mk (below_step z37x11 hb);have n2_:=Aside0.mk (hbox);have n3_:=Aside0.mk ((z37x10 : w.heap.size ≤ qo));have n4_:=Aside0.mk ((z37x10 : w.heap.size ≤ qo));have n5_:=Aside0.mk ((z37x7 : qb ≠ qo));have n6_:=Aside0.mk ((z37x5 : qo ≠ qb));clear qa;clear HB;have qa:=n0_;have HB:=n1_;have qm:=n2_;have qhg:=n3_;have jb:=n4_;have qx:=n5_;have ua:=n6_;clear n0_ n1_ n2_ n3_ n4_ n5_ n6_;clear hb hbox hg;have qkc:=ua.out;have qjw:=qx.out;have qje : w66.cell? ⟨qo,0,none⟩ = some (.int .i64 0):=(blk_cell qm.out 0).trans rfl;have qjd : w66.cell? ⟨qo,1,none⟩ = some (.int .i64 0):=(blk_cell qm.out 1).trans rfl;have qjc : w66.cell? ⟨qo,2,none⟩ = some (.slice none 0 0):=(blk_cell qm.out 2).trans rfl;have qjb : w66.cell? ⟨qo,3,none⟩ = some (.slice none 0 0):=(blk_cell qm.out 3).trans rfl;have qid:=blk_frozen qm.out 0;have qic:=blk_frozen qm.out 1;have qib:=blk_frozen qm.out 2;have qia:=blk_frozen qm.out 3)|((with_reducible refine gate_callee (f:=108) rfl ?_);refine goesL_ (some 69) rfl rfl Try.func108 (by kernel_rfl) rfl #[.agg #[.int .i64 ((rd_T128 qe qf).f0),.int .i64 ((rd_T128 qe qf).f1),.slice wv ((rd_T128 qe qf).f2).length wt,.slice vy ((rd_T128 qe qf).f3).length vw]] rfl z37x12 ?_;(with_reducible refine (impl_ServOk.calls k3 ((rd_T128 qe qf).f0) ((rd_T128 qe qf).f1) _ _ ((rd_T128 qe qf).f2) _ _ ((rd_T128 qe qf).f3) false _ ?side1 ?side2 ?side3 ?side4 A53.out).mono ?_);(case side1=>exact Kd.C_below uk.out z37x9);(case side2=>exact ur.out);(case side3=>exact Kd.C_below uj.out z37x9);(case side4=>exact uq.out);rintro e w69 ⟨rfl,hb⟩; refine ⟨_,rfl,?_⟩; have n0_:=Aside0.mk (blk_below (g:=qb) (o:=.cells #[.int .i64 qi,.int .i64 qk,.slice qw qj.length qu,.slice qz qc.length qt,.slice (some uh) qe.length qr,.slice qq qh.length qp,.int .i64 ql] 69 (0,0)) z37x3 hb);have n1_:=Aside0.mk (blk_below (g:=qo) (o:=.cells #[.int .i64 ((rd_T128 qe qf).f0),.int .i64 ((rd_T128 qe qf).f1),.slice wv ((rd_T128 qe qf).f2).length wt,.slice vy ((rd_T128 qe qf).f3).length vw] 128 (0,0)) z37x1 hb);have n2_:=Aside0.mk (below_step z37x9 hb);clear qa;clear qm;clear HB;have qa:=n0_;have qm:=n1_;have HB:=n2_;clear n0_ n1_ n2_;(try clear hb);(try clear hb2);(try clear hk);(try clear hi)))
          go_ret
          exact ⟨by first|rfl|(simp [errW_none,errW_some] <;> rfl)|(simp [*,errW_none,errW_some] <;> rfl),by repeat (first|(with_reducible first|exact HB.out|apply below_alloc|apply pw_below_drewN|apply below_drew1|refine below_set ?_ wi.out|refine below_set ?_ jb.out)|exact HB.out)⟩
         subst c54
         rw [if_pos rfl] at H
         by_cases c55 : ((rd_T128 qe qf).f0) = (wrap64 (qf + 4))
         rotate_left
         ·rw [if_neg c55] at H
          have qhj : (((rd_T128 qe qf).f0) == (wrap64 (qf + 4))) = false:=beq_eq_false_iff_ne.mpr c55
          have qhi : (((rd_T128 qe qf).f0) != (wrap64 (qf + 4))) = true:=bne_iff_ne.mpr c55
          obtain rfl:=Option.some.inj H
          have ja : 0 ≤ (qf : Int):=of_decide_eq_true (by first|(with_reducible assumption)|assumption)
          have uz : qf < (qe.length : Int):=of_decide_eq_true (by first|(with_reducible assumption)|assumption)
          obtain ⟨uh,wv,wt,vy,vw,qdp,wm,wl,wk,wj,vk,vq,wz,vp⟩:=at_T128 qdr.out qf ja uz
          cases qdp
          replace wm:=(HB.out.cell (World.block_lt_of_cell? w _ wm)).trans wm
          replace wl:=(HB.out.cell (World.block_lt_of_cell? w _ wl)).trans wl
          replace wk:=(HB.out.cell (World.block_lt_of_cell? w _ wk)).trans wk
          replace wj:=(HB.out.cell (World.block_lt_of_cell? w _ wj)).trans wj
          have uk:=Aside0.mk vq
          have ur:=Aside0.mk vk
          clear vq vk
          have uj:=Aside0.mk vp
          have uq:=Aside0.mk wz
          clear vp wz
          replace ja:=eq_true ja
          replace uz:=eq_true uz
          go_wp2_with (first|((with_reducible refine gate_dst (N:=6) rfl ?_);refine box_event ?hg (N:=6) ?hd (cs:=#[.int .i64 0,.int .i64 0,.slice none 0 0,.slice none 0 0]) (t:=128) ?hr ?_;(case hd=>rfl);(case hg=>rfl);(case hr=>first|(go_simp;done)|(go_simp;rfl));intro qo hg w61 hbox hb;have n0_:=Aside0.mk (blk_below (g:=qb) (o:=.cells #[.int .i64 qi,.int .i64 qk,.slice qw qj.length qu,.slice qz qc.length qt,.slice (some uh) qe.length qr,.slice qq qh.length qp,.int .i64 ql] 69 (0,0)) z37x14 hb);have n1_:=Aside0.mk (below_step z37x11 hb);have n2_:=Aside0.mk (hbox);have n3_:=Aside0.mk ((z37x10 : w.heap.size ≤ qo));have n4_:=Aside0.mk ((z37x10 : w.heap.size ≤ qo));have n5_:=Aside0.mk ((z37x7 : qb ≠ qo));have n6_:=Aside0.mk ((z37x5 : qo ≠ qb));clear qa;clear HB;have qa:=n0_;have HB:=n1_;have qm:=n2_;have qhg:=n3_;have jb:=n4_;have qx:=n5_;have ua:=n6_;clear n0_ n1_ n2_ n3_ n4_ n5_ n6_;clear hb hbox hg;have qkd:=ua.out;have qjx:=qx.out;have qjm : w61.cell? ⟨qo,0,none⟩ = some (.int .i64 0):=(blk_cell qm.out 0).trans rfl;have qjl : w61.cell? ⟨qo,1,none⟩ = some (.int .i64 0):=(blk_cell qm.out 1).trans rfl;have qjk : w61.cell? ⟨qo,2,none⟩ = some (.slice none 0 0):=(blk_cell qm.out 2).trans rfl;have qjj : w61.cell? ⟨qo,3,none⟩ = some (.slice none 0 0):=(blk_cell qm.out 3).trans rfl;have qil:=blk_frozen qm.out 0;have qik:=blk_frozen qm.out 1;have qij:=blk_frozen qm.out 2;have qii:=blk_frozen qm.out 3)|((with_reducible refine gate_callee (f:=108) rfl ?_);refine goesL_ (some 69) rfl rfl Try.func108 (by kernel_rfl) rfl #[.agg #[.int .i64 ((rd_T128 qe qf).f0),.int .i64 ((rd_T128 qe qf).f1),.slice wv ((rd_T128 qe qf).f2).length wt,.slice vy ((rd_T128 qe qf).f3).length vw]] rfl z37x12 ?_;(with_reducible refine (impl_ServOk.calls k3 ((rd_T128 qe qf).f0) ((rd_T128 qe qf).f1) _ _ ((rd_T128 qe qf).f2) _ _ ((rd_T128 qe qf).f3) true _ ?side1 ?side2 ?side3 ?side4 A53.out).mono ?_);(case side1=>exact Kd.C_below uk.out z37x9);(case side2=>exact ur.out);(case side3=>exact Kd.C_below uj.out z37x9);(case side4=>exact uq.out);rintro e w64 ⟨rfl,hb⟩; refine ⟨_,rfl,?_⟩; have n0_:=Aside0.mk (blk_below (g:=qb) (o:=.cells #[.int .i64 qi,.int .i64 qk,.slice qw qj.length qu,.slice qz qc.length qt,.slice (some uh) qe.length qr,.slice qq qh.length qp,.int .i64 ql] 69 (0,0)) z37x3 hb);have n1_:=Aside0.mk (blk_below (g:=qo) (o:=.cells #[.int .i64 ((rd_T128 qe qf).f0),.int .i64 ((rd_T128 qe qf).f1),.slice wv ((rd_T128 qe qf).f2).length wt,.slice vy ((rd_T128 qe qf).f3).length vw] 128 (0,0)) z37x1 hb);have n2_:=Aside0.mk (below_step z37x9 hb);clear qa;clear qm;clear HB;have qa:=n0_;have qm:=n1_;have HB:=n2_;clear n0_ n1_ n2_;(try clear hb);(try clear hb2);(try clear hk);(try clear hi);have qji : w64.cell? ⟨qo,0,none⟩ = some (.int .i64 ((rd_T128 qe qf).f0)):=(blk_cell qm.out 0).trans rfl;have qjh : w64.cell? ⟨qo,1,none⟩ = some (.int .i64 ((rd_T128 qe qf).f1)):=(blk_cell qm.out 1).trans rfl;have qjg : w64.cell? ⟨qo,2,none⟩ = some (.slice wv ((rd_T128 qe qf).f2).length wt):=(blk_cell qm.out 2).trans rfl;have qjf : w64.cell? ⟨qo,3,none⟩ = some (.slice vy ((rd_T128 qe qf).f3).length vw):=(blk_cell qm.out 3).trans rfl;have qih:=blk_frozen qm.out 0;have qig:=blk_frozen qm.out 1;have qif:=blk_frozen qm.out 2;have qie:=blk_frozen qm.out 3))
          go_ret
          exact ⟨by first|rfl|(simp [errW_none,errW_some] <;> rfl)|(simp [*,errW_none,errW_some] <;> rfl),by repeat (first|(with_reducible first|exact HB.out|apply below_alloc|apply pw_below_drewN|apply below_drew1|refine below_set ?_ wi.out|refine below_set ?_ jb.out)|exact HB.out)⟩
         rw [if_pos c55] at H
         have qhj : (((rd_T128 qe qf).f0) == (wrap64 (qf + 4))) = true:=beq_iff_eq.mpr c55
         have qhi : (((rd_T128 qe qf).f0) != (wrap64 (qf + 4))) = false:=bne_eq_false_iff_eq.mpr c55
         clear c55
         have H':=Aside0.mk H
         clear H
         have ja : 0 ≤ (qf : Int):=of_decide_eq_true (by first|(with_reducible assumption)|assumption)
         have uz : qf < (qe.length : Int):=of_decide_eq_true (by first|(with_reducible assumption)|assumption)
         obtain ⟨uh,wv,wt,vy,vw,qdp,wm,wl,wk,wj,vk,vq,wz,vp⟩:=at_T128 qdr.out qf ja uz
         cases qdp
         replace wm:=(HB.out.cell (World.block_lt_of_cell? w _ wm)).trans wm
         replace wl:=(HB.out.cell (World.block_lt_of_cell? w _ wl)).trans wl
         replace wk:=(HB.out.cell (World.block_lt_of_cell? w _ wk)).trans wk
         replace wj:=(HB.out.cell (World.block_lt_of_cell? w _ wj)).trans wj
         have uk:=Aside0.mk vq
         have ur:=Aside0.mk vk
         clear vq vk
         have uj:=Aside0.mk vp
         have uq:=Aside0.mk wz
         clear vp wz
         replace ja:=eq_true ja
         replace uz:=eq_true uz
         go_wp2_with (first|((with_reducible refine gate_dst (N:=6) rfl ?_);refine box_event ?hg (N:=6) ?hd (cs:=#[.int .i64 0,.int .i64 0,.slice none 0 0,.slice none 0 0]) (t:=128) ?hr ?_;(case hd=>rfl);(case hg=>rfl);(case hr=>first|(go_simp;done)|(go_simp;rfl));intro qo hg w56 hbox hb;have n0_:=Aside0.mk (blk_below (g:=qb) (o:=.cells #[.int .i64 qi,.int .i64 qk,.slice qw qj.length qu,.slice qz qc.length qt,.slice (some uh) qe.length qr,.slice qq qh.length qp,.int .i64 ql] 69 (0,0)) z37x14 hb);have n1_:=Aside0.mk (below_step z37x11 hb);have n2_:=Aside0.mk (hbox);have n3_:=Aside0.mk ((z37x10 : w.heap.size ≤ qo));have n4_:=Aside0.mk ((z37x10 : w.heap.size ≤ qo));have n5_:=Aside0.mk ((z37x7 : qb ≠ qo));have n6_:=Aside0.mk ((z37x5 : qo ≠ qb));clear qa;clear HB;have qa:=n0_;have HB:=n1_;have qm:=n2_;have qhg:=n3_;have jb:=n4_;have qx:=n5_;have ua:=n6_;clear n0_ n1_ n2_ n3_ n4_ n5_ n6_;clear hb hbox hg;have qke:=ua.out;have qjy:=qx.out;have qju : w56.cell? ⟨qo,0,none⟩ = some (.int .i64 0):=(blk_cell qm.out 0).trans rfl;have qjt : w56.cell? ⟨qo,1,none⟩ = some (.int .i64 0):=(blk_cell qm.out 1).trans rfl;have qjs : w56.cell? ⟨qo,2,none⟩ = some (.slice none 0 0):=(blk_cell qm.out 2).trans rfl;have qjr : w56.cell? ⟨qo,3,none⟩ = some (.slice none 0 0):=(blk_cell qm.out 3).trans rfl;have qit:=blk_frozen qm.out 0;have qis:=blk_frozen qm.out 1;have qir:=blk_frozen qm.out 2;have qiq:=blk_frozen qm.out 3)|((with_reducible refine gate_callee (f:=108) rfl ?_);refine goesL_ (some 69) rfl rfl Try.func108 (by kernel_rfl) rfl #[.agg #[.int .i64 ((rd_T128 qe qf).f0),.int .i64 ((rd_T128 qe qf).f1),.slice wv ((rd_T128 qe qf).f2).length wt,.slice vy ((rd_T128 qe qf).f3).length vw]] rfl z37x12 ?_;(with_reducible refine (impl_ServOk.calls k3 ((rd_T128 qe qf).f0) ((rd_T128 qe qf).f1) _ _ ((rd_T128 qe qf).f2) _ _ ((rd_T128 qe qf).f3) true _ ?side1 ?side2 ?side3 ?side4 A53.out).mono ?_);(case side1=>exact Kd.C_below uk.out z37x9);(case side2=>exact ur.out);(case side3=>exact Kd.C_below uj.out z37x9);(case side4=>exact uq.out);rintro e w59 ⟨rfl,hb⟩; refine ⟨_,rfl,?_⟩; have n0_:=Aside0.mk (blk_below (g:=qb) (o:=.cells #[.int .i64 qi,.int .i64 qk,.slice qw qj.length qu,.slice qz qc.length qt,.slice (some uh) qe.length qr,.slice qq qh.length qp,.int .i64 ql] 69 (0,0)) z37x3 hb);have n1_:=Aside0.mk (blk_below (g:=qo) (o:=.cells #[.int .i64 ((rd_T128 qe qf).f0),.int .i64 ((rd_T128 qe qf).f1),.slice wv ((rd_T128 qe qf).f2).length wt,.slice vy ((rd_T128 qe qf).f3).length vw] 128 (0,0)) z37x1 hb);have n2_:=Aside0.mk (below_step z37x9 hb);clear qa;clear qm;clear HB;have qa:=n0_;have qm:=n1_;have HB:=n2_;clear n0_ n1_ n2_;(try clear hb);(try clear hb2);(try clear hk);(try clear hi);have qjq : w59.cell? ⟨qo,0,none⟩ = some (.int .i64 ((rd_T128 qe qf).f0)):=(blk_cell qm.out 0).trans rfl;have qjp : w59.cell? ⟨qo,1,none⟩ = some (.int .i64 ((rd_T128 qe qf).f1)):=(blk_cell qm.out 1).trans rfl;have qjo : w59.cell? ⟨qo,2,none⟩ = some (.slice wv ((rd_T128 qe qf).f2).length wt):=(blk_cell qm.out 2).trans rfl;have qjn : w59.cell? ⟨qo,3,none⟩ = some (.slice vy ((rd_T128 qe qf).f3).length vw):=(blk_cell qm.out 3).trans rfl;have qip:=blk_frozen qm.out 0;have qio:=blk_frozen qm.out 1;have qin:=blk_frozen qm.out 2;have qim:=blk_frozen qm.out 3))
         go_roundg k3
         case measure=>have:=HJ1.out;have:=HK2.out;have:=HK3.out;omega
         case rel=>exact ⟨(wrap64 (qf + 1)),(by first|rfl|(simp;done)|(simp [*];done)),H',⟨by have:=HJ1.out;have:=HK2.out;have:=HK3.out;omega⟩,⟨by (with_reducible repeat (first|refine blk_drewN ?_ _|refine blk_drew ?_|refine blk_alloc ?_ _));exact qa.out⟩,⟨by repeat (first|(with_reducible first|exact HB.out|apply below_alloc|apply pw_below_drewN|apply below_drew1|refine below_set ?_ wi.out|refine below_set ?_ jb.out)|exact HB.out)⟩⟩

end Go.Proofs.Ytbipicjijbnbbaa.Hp
