-- hp.py
import Derived.Test.YtbipicjijbnbbaaHx0
import Derived.Test.YtbipicjijbnbbaaHx11
namespace Go.Proofs.Ytbipicjijbnbbaa.Hp
open Go.RowKit Go.Proofs.YtbipicjijbnbbaaW.PrintWords Go.Proofs.YtbipicjijbnbbaaW.PrintLast Go.Proofs.YtbipicjijbnbbaaW.PrintMore
attribute [local go_sem] max2_int min2_int max_two min_two max_three min_three max_four min_four   -- for this text's walks alone
set_option linter.unusedVariables false
set_option linter.unusedSimpArgs false
-- squeezed by wip/tools/squeeze.py
theorem z20x0 {P : Prop} (h : P:=by (try simp only [List.map_toArray,List.map_cons,List.map_nil]);first|done|rfl|(simp only [List.length_drop,List.length_take];rfl)) : P:=h

/-! ### impl_ring_has: function 91 -/
/-- Block g is a ring: which keys one has. -/
structure Ring (w : World) (g : Nat) (bs : List Bool) : Prop where
  blk : w.heap[g]? = some (.cells (bs.map Value.bool).toArray 164 (0,0))
  len : bs.length = 61
theorem Ring.below {w w' : World} {g : Nat} {bs : List Bool} (h : Ring w g bs) (hb : Below w.heap.size w w') : Ring w' g bs :=
  ⟨(hb.block g (Array.getElem?_eq_some_iff.1 h.blk).1).trans h.blk,h.len⟩
theorem Ring.cell {w : World} {g : Nat} {bs : List Bool} (h : Ring w g bs) (i : Nat) (hi : i < 61) : w.cell? ⟨g,i,none⟩ = some (.bool (bs.getD i false)):=by
  rw [blk_cell h.blk i]
  have hl : i < bs.length:=by have:=h.len;omega
  simp [List.getD_eq_getElem?_getD,List.getElem?_eq_getElem hl]
theorem Ring.frozen {w : World} {g : Nat} {bs : List Bool} (h : Ring w g bs) (i : Nat) : w.frozen? ⟨g,i,none⟩ = false:=blk_frozen h.blk i
/-- Is a key there? -/
def ringHas (bs : List Bool) (key : Int) : Bool:=decide (1 ≤ key ∧ key ≤ 60) && bs.getD key.toNat false
theorem within_is (n lo hi : Int) : impl_within.f n lo hi = some (decide (lo ≤ n ∧ n ≤ hi)):=by
  unfold impl_within.f
  split
  · simp;omega
  · simp;omega
set_option maxHeartbeats 8000000 in
set_option maxRecDepth 100000 in
theorem impl_ring_has.calls (g : Nat) (bs : List Bool) (key : Int) (w : World) (hR : Ring w g bs) :
    Calls Try.prog 91 #[.pointer (some ⟨g,0,none⟩),.int .i64 key] w fun e w' => e = .returned (.bool (ringHas bs key)) ∧ Drawn0 w w':=by
  by_cases h : 1 ≤ key ∧ key ≤ 60
  rotate_left
  · have HW:=Aside0.mk ((within_is key 1 60).trans (by rw [decide_eq_false h]))
    have HH:=Aside0.mk (show ringHas bs key = false by unfold ringHas;rw [decide_eq_false h];rfl)
    clear hR h
    go_enter Try.func91,Try.ntmps91
    go_wp2_with (first|(go_at_call 72;refine (impl_within.calls _ _ _ false _ HW.out).mono ?_;rintro e w1 ⟨rfl,hd⟩))
    go_ret
    exact ⟨by rw [HH.out];rfl,hd⟩
  have HW:=Aside0.mk ((within_is key 1 60).trans (by rw [decide_eq_true h]))
  have HH:=Aside0.mk (show ringHas bs key = bs.getD key.toNat false by unfold ringHas;rw [decide_eq_true h];rfl)
  have hc:=hR.cell key.toNat (by omega)
  have h1 : 0 ≤ key:=by omega
  have h2 : key < 61:=by omega
  clear hR h
  go_enter Try.func91,Try.ntmps91
  go_wp2_with (first|(go_at_call 72;refine (impl_within.calls _ _ _ true _ HW.out).mono ?_;rintro e w1 ⟨rfl,hd⟩; obtain ⟨m,rfl⟩:=hd.out;clear hd))
  go_ret
  exact ⟨by rw [HH.out];simp,⟨⟨m,rfl⟩⟩⟩

/-! ### impl_userOk: function 66 -/
def impl_userOk.f (a0 : Int) : Option (Bool):=(impl_within.f a0 1 3).bind fun qd=>(some qd)
set_option maxHeartbeats 8000000 in
set_option maxRecDepth 100000 in
theorem impl_userOk.calls (a0 : Int) (r : Bool) (w : World) (h : impl_userOk.f a0 = some r) :
  Calls Try.prog 66 #[.int .i64 a0] w fun e w' => e = .returned (.bool r) ∧ Drawn0 w w':=by
 have H : ((impl_within.f a0 1 3).bind fun qd=>(some qd)) = some r:=h
 clear h
 replace H:=Option.bind_eq_some_iff.mp H
 obtain ⟨qd,A20,H⟩:=H
 replace H : (some qd) = some r:=H
 have A2:=Aside0.mk A20
 clear A20
 obtain rfl:=Option.some.inj H
 go_enter Try.func66,Try.ntmps66
 go_wp2_with (first|((with_reducible refine gate_callee (f:=72) rfl ?_);refine goesL_ (some 4) rfl rfl Try.func72 (by kernel_rfl) rfl #[.int .i64 a0,.int .i64 1,.int .i64 3] rfl z20x0 ?_;(with_reducible refine (impl_within.calls a0 1 3 qd _ A2.out).mono ?_);rintro e w' ⟨rfl,⟨nd,rfl⟩⟩; refine ⟨_,rfl,?_⟩))
 go_ret
 exact ⟨by first|rfl|(simp;done)|(simp [*];done),by repeat (first|exact Drawn0.refl _|apply Drawn0.step)⟩

/-! ### impl_timeOk: function 68 -/
def impl_timeOk.f (a0 : Int) : Option (Bool):=(impl_within.f a0 0 100).bind fun qc=>(some qc)
set_option maxHeartbeats 8000000 in
set_option maxRecDepth 100000 in
theorem impl_timeOk.calls (a0 : Int) (r : Bool) (w : World) (h : impl_timeOk.f a0 = some r) :
  Calls Try.prog 68 #[.int .i64 a0] w fun e w' => e = .returned (.bool r) ∧ Drawn0 w w':=by
 have H : ((impl_within.f a0 0 100).bind fun qc=>(some qc)) = some r:=h
 clear h
 replace H:=Option.bind_eq_some_iff.mp H
 obtain ⟨qc,A20,H⟩:=H
 replace H : (some qc) = some r:=H
 have A2:=Aside0.mk A20
 clear A20
 obtain rfl:=Option.some.inj H
 go_enter Try.func68,Try.ntmps68
 go_wp2_with (first|((with_reducible refine gate_callee (f:=72) rfl ?_);refine goesL_ (some 4) rfl rfl Try.func72 (by kernel_rfl) rfl #[.int .i64 a0,.int .i64 0,.int .i64 100] rfl z20x0 ?_;(with_reducible refine (impl_within.calls a0 0 100 qc _ A2.out).mono ?_);rintro e w' ⟨rfl,⟨nd,rfl⟩⟩; refine ⟨_,rfl,?_⟩))
 go_ret
 exact ⟨by first|rfl|(simp;done)|(simp [*];done),by repeat (first|exact Drawn0.refl _|apply Drawn0.step)⟩

/-! ### impl_servOk: function 76 -/
def impl_servOk.f (a0 : Int) : Option (Bool):=(impl_within.f a0 4 5).bind fun qb=>(some qb)
set_option maxHeartbeats 8000000 in
set_option maxRecDepth 100000 in
theorem impl_servOk.calls (a0 : Int) (r : Bool) (w : World) (h : impl_servOk.f a0 = some r) :
  Calls Try.prog 76 #[.int .i64 a0] w fun e w' => e = .returned (.bool r) ∧ Drawn0 w w':=by
 have H : ((impl_within.f a0 4 5).bind fun qb=>(some qb)) = some r:=h
 clear h
 replace H:=Option.bind_eq_some_iff.mp H
 obtain ⟨qb,A20,H⟩:=H
 replace H : (some qb) = some r:=H
 have A2:=Aside0.mk A20
 clear A20
 obtain rfl:=Option.some.inj H
 go_enter Try.func76,Try.ntmps76
 go_wp2_with (first|((with_reducible refine gate_callee (f:=72) rfl ?_);refine goesL_ (some 4) rfl rfl Try.func72 (by kernel_rfl) rfl #[.int .i64 a0,.int .i64 4,.int .i64 5] rfl z20x0 ?_;(with_reducible refine (impl_within.calls a0 4 5 qb _ A2.out).mono ?_);rintro e w' ⟨rfl,⟨nd,rfl⟩⟩; refine ⟨_,rfl,?_⟩))
 go_ret
 exact ⟨by first|rfl|(simp;done)|(simp [*];done),by repeat (first|exact Drawn0.refl _|apply Drawn0.step)⟩

/-! ### impl_giverOk: function 73 -/
def impl_giverOk.f (a0 : Int) : Option (Bool):=(impl_servOk.f a0).bind fun qa=>(if qa = true then (some true) else (some (a0 == 6)))
set_option maxHeartbeats 8000000 in
set_option maxRecDepth 100000 in
theorem impl_giverOk.calls (a0 : Int) (r : Bool) (w : World) (h : impl_giverOk.f a0 = some r) :
  Calls Try.prog 73 #[.int .i64 a0] w fun e w' => e = .returned (.bool r) ∧ Drawn0 w w':=by
 have H : ((impl_servOk.f a0).bind fun qa=>(if qa = true then (some true) else (some (a0 == 6)))) = some r:=h
 clear h
 replace H:=Option.bind_eq_some_iff.mp H
 obtain ⟨qa,A20,H⟩:=H
 replace H : (if qa = true then (some true) else (some (a0 == 6))) = some r:=H
 have A2:=Aside0.mk A20
 clear A20
 by_cases c3 : qa = true
 ·subst c3
  rw [if_pos rfl] at H
  obtain rfl:=Option.some.inj H
  go_enter Try.func73,Try.ntmps73
  go_wp2_with (first|((with_reducible refine gate_callee (f:=76) rfl ?_);refine goesL_ (some 4) rfl rfl Try.func76 (by kernel_rfl) rfl #[.int .i64 a0] rfl z20x0 ?_;(with_reducible refine (impl_servOk.calls a0 true _ A2.out).mono ?_);rintro e w' ⟨rfl,⟨nd,rfl⟩⟩; refine ⟨_,rfl,?_⟩))
  go_ret
  exact ⟨by first|rfl|(simp;done)|(simp [*];done),by repeat (first|exact Drawn0.refl _|apply Drawn0.step)⟩
 ·replace c3:=Bool.eq_false_iff.mpr c3
  subst c3
  rw [if_neg (show ¬ (false = true) by decide)] at H
  obtain rfl:=Option.some.inj H
  go_enter Try.func73,Try.ntmps73
  go_wp2_with (first|((with_reducible refine gate_callee (f:=76) rfl ?_);refine goesL_ (some 4) rfl rfl Try.func76 (by kernel_rfl) rfl #[.int .i64 a0] rfl z20x0 ?_;(with_reducible refine (impl_servOk.calls a0 false _ A2.out).mono ?_);rintro e w' ⟨rfl,⟨nd,rfl⟩⟩; refine ⟨_,rfl,?_⟩))
  go_ret
  exact ⟨by first|rfl|(simp;done)|(simp [*];done),by repeat (first|exact Drawn0.refl _|apply Drawn0.step)⟩

end Go.Proofs.Ytbipicjijbnbbaa.Hp
