-- hp.py
import Derived.Test.YtgekmdfcbcacdaaHx0
import Derived.Test.YtgekmdfcbcacdaaHx7
import Derived.Test.YtgekmdfcbcacdaaHx8
import Derived.Test.YtgekmdfcbcacdaaHx12
import Derived.Test.YtgekmdfcbcacdaaHx13
namespace Go.Proofs.Ytgekmdfcbcacdaa.Hp
open Go.RowKit Go.Proofs.YtgekmdfcbcacdaaW.PrintWords Go.Proofs.YtgekmdfcbcacdaaW.PrintLast Go.Proofs.YtgekmdfcbcacdaaW.PrintMore
attribute [local go_sem] max2_int min2_int max_two min_two max_three min_three max_four min_four   -- for this text's walks alone
set_option linter.unusedVariables false
set_option linter.unusedSimpArgs false
-- squeezed by wip/tools/squeeze.py
theorem z20x1 {P : Prop} (h : P:=by repeat (first|(with_reducible first|exact HB.out|apply below_alloc|apply pw_below_drewN|apply below_drew1)|exact HB.out)) : P:=h
theorem z20x0 {P : Prop} (h : P:=by (try simp only [List.map_toArray,List.map_cons,List.map_nil]);first|done|rfl|(simp only [List.length_drop,List.length_take];rfl)) : P:=h

/-! ### impl_Msg_shaped: function 86 -/
/-- A word is of its kind,but for its seals. -/
def shapeB (kind client serv nonce : Int) (n : Nat) : Bool :=
  if kind = 1 then rng client 1 3 && ((serv == 0) && (rng nonce 1 60 && ((n : Int) == 0)))
  else if kind = 2 then rng client 1 3 && ((serv == 0) && ((nonce == 0) && ((n : Int) == 2)))
  else if kind = 3 then (client == 0) && (rng serv 4 5 && (rng nonce 1 60 && ((n : Int) == 2)))
  else if kind = 4 then rng client 1 3 && ((serv == 0) && ((nonce == 0) && ((n : Int) == 2)))
  else if kind = 5 then (client == 0) && (rng serv 4 5 && ((nonce == 0) && ((n : Int) == 2)))
  else if kind = 6 then rng client 1 3 && ((serv == 0) && ((nonce == 0) && ((n : Int) == 1)))
  else false
theorem path3 : ∀ a b c : Bool,a = false ∨ (a = true ∧ b = false) ∨ (a = true ∧ b = true ∧ c = false) ∨ (a = true ∧ b = true ∧ c = true):=by decide
def impl_Msg_shaped.f (kind client serv nonce : Int) (l : List S41) : Option Bool:=some (shapeB kind client serv nonce l.length)
set_option maxHeartbeats 16000000 in
set_option maxRecDepth 100000 in
theorem impl_Msg_shaped.calls (kind client serv nonce : Int) (A : Option Addr) (c : Nat) (l : List S41) (r : Bool) (w : World) (hr : Kd.C k41 w A l.length l) (hc : l.length ≤ c) (h : impl_Msg_shaped.f kind client serv nonce l = some r) :
    Calls Try.prog 86 #[.agg #[.int .i64 kind,.int .i64 client,.int .i64 serv,.int .i64 nonce,.slice A l.length c]] w fun e w' => e = .returned (.bool r) ∧ Below w.heap.size w w':=by
  obtain rfl : shapeB kind client serv nonce l.length = r:=Option.some.inj h
  clear h hr hc
  generalize l.length = n
  by_cases k1 : kind = 1
  case' pos =>
    subst k1
    rcases path3 (rng client 1 3) (serv == 0) (rng nonce 1 60) with h1|⟨h1,h2⟩|⟨h1,h2,h3⟩|⟨h1,h2,h3⟩
  case' neg =>
    have e1 : (kind == 1) = false:=beq_eq_false_iff_ne.2 k1
    by_cases k2 : kind = 2
    case' pos =>
      subst k2
      rcases path3 (rng client 1 3) (serv == 0) (nonce == 0) with h1|⟨h1,h2⟩|⟨h1,h2,h3⟩|⟨h1,h2,h3⟩
    case' neg =>
      have e2 : (kind == 2) = false:=beq_eq_false_iff_ne.2 k2
      by_cases k4 : kind = 4
      case' pos =>
        subst k4
        rcases path3 (rng client 1 3) (serv == 0) (nonce == 0) with h1|⟨h1,h2⟩|⟨h1,h2,h3⟩|⟨h1,h2,h3⟩
      case' neg =>
        have e4 : (kind == 4) = false:=beq_eq_false_iff_ne.2 k4
        by_cases k3 : kind = 3
        case' pos =>
          subst k3
          rcases path3 (client == 0) (rng serv 4 5) (rng nonce 1 60) with h1|⟨h1,h2⟩|⟨h1,h2,h3⟩|⟨h1,h2,h3⟩
        case' neg =>
          have e3 : (kind == 3) = false:=beq_eq_false_iff_ne.2 k3
          by_cases k5 : kind = 5
          case' pos =>
            subst k5
            rcases path3 (client == 0) (rng serv 4 5) (nonce == 0) with h1|⟨h1,h2⟩|⟨h1,h2,h3⟩|⟨h1,h2,h3⟩
          case' neg =>
            have e5 : (kind == 5) = false:=beq_eq_false_iff_ne.2 k5
            by_cases k6 : kind = 6
            case' pos =>
              subst k6
              rcases path3 (rng client 1 3) (serv == 0) (nonce == 0) with h1|⟨h1,h2⟩|⟨h1,h2,h3⟩|⟨h1,h2,h3⟩
            case' neg =>
              have e6 : (kind == 6) = false:=beq_eq_false_iff_ne.2 k6
  all_goals
    go_enter Try.func86,Try.ntmps86
    go_wp2_with fail
    go_quiet (fail)
    go_wp2_with (first|(go_at_call 72;refine (impl_userOk.calls _ _ _ (userOk_rng _)).mono ?_;rintro e w1 ⟨rfl,hd⟩; obtain ⟨m,rfl⟩:=hd.out;clear hd)|(go_at_call 82;refine (impl_servOk.calls _ _ _ (servOk_rng _)).mono ?_;rintro e w1 ⟨rfl,hd⟩; obtain ⟨m,rfl⟩:=hd.out;clear hd)|(go_at_call 92;refine (impl_numberOk.calls _ _ _ (numberOk_rng _)).mono ?_;rintro e w1 ⟨rfl,hd⟩; obtain ⟨m,rfl⟩:=hd.out;clear hd))
    go_ret
    exact ⟨by simp [shapeB, *],by repeat (first|(with_reducible exact Below.refl _ _)|apply pw_below_drewN|apply below_drew1|apply below_alloc)⟩

/-! ### impl_MsgOk_1: function 88 -/
def impl_MsgOk_1.f (qi : Int) (qh : Int) (qg : Int) (qf : Int) (qe : Int) (qd : Int) (qc : Int) : Option (Bool):=(impl_SealOk.f qi qh qg qf qe qd qc).bind fun ql=>(some (!ql))
set_option maxHeartbeats 8000000 in
set_option maxRecDepth 100000 in
theorem impl_MsgOk_1.calls (qi : Int) (qh : Int) (qg : Int) (qf : Int) (qe : Int) (qd : Int) (qc : Int) (r : Bool) (w : World) (h : impl_MsgOk_1.f qi qh qg qf qe qd qc = some r) :
  Calls Try.prog 88 #[.agg #[.int .i64 qi,.int .i64 qh,.int .i64 qg,.int .i64 qf,.int .i64 qe,.int .i64 qd,.int .i64 qc]] w fun e w' => e = .returned (.bool r) ∧ Below w.heap.size w w':=by
 have wd:=Try.underlying41
 have HB:=Aside0.mk (Below.refl w.heap.size w)
 have H : ((impl_SealOk.f qi qh qg qf qe qd qc).bind fun ql=>(some (!ql))) = some r:=h
 clear h
 replace H:=Option.bind_eq_some_iff.mp H
 obtain ⟨ql,A20,H⟩:=H
 replace H : (some (!ql)) = some r:=H
 have A2:=Aside0.mk A20
 clear A20
 obtain rfl:=Option.some.inj H
 go_enter Try.func88,Try.ntmps88
 go_wp2_with (first|((with_reducible refine gate_dst (N:=1) rfl ?_);refine box_event ?hg (N:=1) ?hd (cs:=#[.int .i64 qi,.int .i64 qh,.int .i64 qg,.int .i64 qf,.int .i64 qe,.int .i64 qd,.int .i64 qc]) (t:=41) ?hr ?_;(case hd=>rfl);(case hg=>rfl);(case hr=>first|(go_simp;done)|(go_simp;rfl));intro qb hg w3 hbox hb;have n0_:=Aside0.mk (below_step z20x1 hb);have n1_:=Aside0.mk (hbox);have n2_:=Aside0.mk ((by rw [hg];exact (below_size z20x1) : w.heap.size ≤ qb));have n3_:=Aside0.mk ((by rw [hg];exact (below_size z20x1) : w.heap.size ≤ qb));clear HB;have HB:=n0_;have qa:=n1_;have wc:=n2_;have qm:=n3_;clear n0_ n1_ n2_ n3_;clear hb hbox hg;have wb : w3.cell? ⟨qb,0,none⟩ = some (.int .i64 qi):=(blk_cell qa.out 0).trans rfl;have wa : w3.cell? ⟨qb,1,none⟩ = some (.int .i64 qh):=(blk_cell qa.out 1).trans rfl;have qz : w3.cell? ⟨qb,2,none⟩ = some (.int .i64 qg):=(blk_cell qa.out 2).trans rfl;have qy : w3.cell? ⟨qb,3,none⟩ = some (.int .i64 qf):=(blk_cell qa.out 3).trans rfl;have qx : w3.cell? ⟨qb,4,none⟩ = some (.int .i64 qe):=(blk_cell qa.out 4).trans rfl;have qw : w3.cell? ⟨qb,5,none⟩ = some (.int .i64 qd):=(blk_cell qa.out 5).trans rfl;have qv : w3.cell? ⟨qb,6,none⟩ = some (.int .i64 qc):=(blk_cell qa.out 6).trans rfl;have qu:=blk_frozen qa.out 0;have qt:=blk_frozen qa.out 1;have qr:=blk_frozen qa.out 2;have qq:=blk_frozen qa.out 3;have qp:=blk_frozen qa.out 4;have qo:=blk_frozen qa.out 5;have qn:=blk_frozen qa.out 6)|((with_reducible refine gate_callee (f:=25) rfl ?_);refine goesL_ (some 4) rfl rfl Try.func25 (by kernel_rfl) rfl #[.agg #[.int .i64 qi,.int .i64 qh,.int .i64 qg,.int .i64 qf,.int .i64 qe,.int .i64 qd,.int .i64 qc]] rfl z20x0 ?_;(with_reducible refine (impl_SealOk.calls qi qh qg qf qe qd qc ql _ A2.out).mono ?_);rintro e w5 ⟨rfl,hb⟩; refine ⟨_,rfl,?_⟩; have n0_:=Aside0.mk (blk_below (g:=qb) (o:=.cells #[.int .i64 qi,.int .i64 qh,.int .i64 qg,.int .i64 qf,.int .i64 qe,.int .i64 qd,.int .i64 qc] 41 (0,0)) (by (with_reducible repeat (first|refine blk_drewN ?_ _|refine blk_drew ?_|refine blk_alloc ?_ _));exact qa.out) hb);have n1_:=Aside0.mk (below_step (by repeat (first|(with_reducible first|exact HB.out|apply below_alloc|apply pw_below_drewN|apply below_drew1|refine below_set ?_ qm.out)|exact HB.out)) hb);clear qa;clear HB;have qa:=n0_;have HB:=n1_;clear n0_ n1_;(try clear hb);(try clear hb2);(try clear hk);(try clear hi)))
 go_ret
 exact ⟨by first|rfl|(simp [errW_none,errW_some] <;> rfl)|(simp [*,errW_none,errW_some] <;> rfl),by repeat (first|(with_reducible first|exact HB.out|apply below_alloc|apply pw_below_drewN|apply below_drew1|refine below_set ?_ qm.out)|exact HB.out)⟩

/-! ### spec_l1Num: function 89 -/
def spec_l1Num.f (a0 : Int) : Option (Bool):=(spec_l6In.f a0 1 60).bind fun qk=>(some qk)
set_option maxHeartbeats 8000000 in
set_option maxRecDepth 100000 in
theorem spec_l1Num.calls (a0 : Int) (r : Bool) (w : World) (h : spec_l1Num.f a0 = some r) :
  Calls Try.prog 89 #[.int .i64 a0] w fun e w' => e = .returned (.bool r) ∧ Drawn0 w w':=by
 have H : ((spec_l6In.f a0 1 60).bind fun qk=>(some qk)) = some r:=h
 clear h
 replace H:=Option.bind_eq_some_iff.mp H
 obtain ⟨qk,A20,H⟩:=H
 replace H : (some qk) = some r:=H
 have A2:=Aside0.mk A20
 clear A20
 obtain rfl:=Option.some.inj H
 go_enter Try.func89,Try.ntmps89
 go_wp2_with (first|((with_reducible refine gate_callee (f:=108) rfl ?_);refine goesL_ (some 4) rfl rfl Try.func108 (by kernel_rfl) rfl #[.int .i64 a0,.int .i64 1,.int .i64 60] rfl z20x0 ?_;(with_reducible refine (spec_l6In.calls a0 1 60 qk _ A2.out).mono ?_);rintro e w' ⟨rfl,⟨nd,rfl⟩⟩; refine ⟨_,rfl,?_⟩))
 go_ret
 exact ⟨by first|rfl|(simp;done)|(simp [*];done),by repeat (first|exact Drawn0.refl _|apply Drawn0.step)⟩

/-! ### spec_l1Time: function 103 -/
def spec_l1Time.f (a0 : Int) : Option (Bool):=(spec_l6In.f a0 0 100).bind fun qj=>(some qj)
set_option maxHeartbeats 8000000 in
set_option maxRecDepth 100000 in
theorem spec_l1Time.calls (a0 : Int) (r : Bool) (w : World) (h : spec_l1Time.f a0 = some r) :
  Calls Try.prog 103 #[.int .i64 a0] w fun e w' => e = .returned (.bool r) ∧ Drawn0 w w':=by
 have H : ((spec_l6In.f a0 0 100).bind fun qj=>(some qj)) = some r:=h
 clear h
 replace H:=Option.bind_eq_some_iff.mp H
 obtain ⟨qj,A20,H⟩:=H
 replace H : (some qj) = some r:=H
 have A2:=Aside0.mk A20
 clear A20
 obtain rfl:=Option.some.inj H
 go_enter Try.func103,Try.ntmps103
 go_wp2_with (first|((with_reducible refine gate_callee (f:=108) rfl ?_);refine goesL_ (some 4) rfl rfl Try.func108 (by kernel_rfl) rfl #[.int .i64 a0,.int .i64 0,.int .i64 100] rfl z20x0 ?_;(with_reducible refine (spec_l6In.calls a0 0 100 qj _ A2.out).mono ?_);rintro e w' ⟨rfl,⟨nd,rfl⟩⟩; refine ⟨_,rfl,?_⟩))
 go_ret
 exact ⟨by first|rfl|(simp;done)|(simp [*];done),by repeat (first|exact Drawn0.refl _|apply Drawn0.step)⟩

end Go.Proofs.Ytgekmdfcbcacdaa.Hp
