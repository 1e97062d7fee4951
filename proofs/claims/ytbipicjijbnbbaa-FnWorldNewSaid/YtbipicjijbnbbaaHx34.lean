-- hp.py
import Derived.Test.YtbipicjijbnbbaaHx0
import Derived.Test.YtbipicjijbnbbaaHx11
import Derived.Test.YtbipicjijbnbbaaHx20
import Derived.Test.YtbipicjijbnbbaaHx21
import Derived.Test.YtbipicjijbnbbaaHx33
namespace Go.Proofs.Ytbipicjijbnbbaa.Hp
open Go.RowKit Go.Proofs.YtbipicjijbnbbaaW.PrintWords Go.Proofs.YtbipicjijbnbbaaW.PrintLast Go.Proofs.YtbipicjijbnbbaaW.PrintMore
attribute [local go_sem] max2_int min2_int max_two min_two max_three min_three max_four min_four   -- for this text's walks alone
set_option linter.unusedVariables false
set_option linter.unusedSimpArgs false
-- squeezed by wip/tools/squeeze.py

/-! ### impl_Call_166: function 166 -/
/-- Is the test of a call true? (The function value is ServOk's.) -/
def impl_ServOk_1.b (x : S113) : Bool:=(impl_ServOk_1.f x.f0 x.f1 x.f2 x.f3).getD false
theorem impl_ServOk_1.total (x : S113) : impl_ServOk_1.f x.f0 x.f1 x.f2 x.f3 = some (impl_ServOk_1.b x):=by
  have hw : ∀ n lo hi,∃ r,impl_within.f n lo hi = some r:=fun n lo hi=>by unfold impl_within.f;split <;> exact ⟨_,rfl⟩
  have h1 : ∀ n,∃ r,impl_userOk.f n = some r:=fun n=>by obtain ⟨r,h⟩:=hw n 1 3;exact ⟨r,by unfold impl_userOk.f;rw [h];rfl⟩
  have h2 : ∀ n,∃ r,impl_madeOk.f n = some r:=fun n=>by obtain ⟨r,h⟩:=hw n 10 60;exact ⟨r,by unfold impl_madeOk.f;rw [h];rfl⟩
  have h3 : ∀ n,∃ r,impl_timeOk.f n = some r:=fun n=>by obtain ⟨r,h⟩:=hw n 0 100;exact ⟨r,by unfold impl_timeOk.f;rw [h];rfl⟩
  have h4 : ∀ n,∃ r,impl_numberOk.f n = some r:=fun n=>by obtain ⟨r,h⟩:=hw n 1 60;exact ⟨r,by unfold impl_numberOk.f;rw [h];rfl⟩
  obtain ⟨r1,e1⟩:=h1 x.f0
  obtain ⟨r2,e2⟩:=h2 x.f1
  obtain ⟨r3,e3⟩:=h3 x.f2
  obtain ⟨r4,e4⟩:=h4 x.f3
  have : ∃ r,impl_ServOk_1.f x.f0 x.f1 x.f2 x.f3 = some r:=by
    unfold impl_ServOk_1.f
    simp only [e1,e2,e3,e4,Option.bind_some]
    (repeat' split) <;> exact ⟨_,rfl⟩
  obtain ⟨r,hr⟩:=this
  unfold impl_ServOk_1.b
  rw [hr];rfl
def callNone (l : List S113) (x : Int) : Prop:=∀ j : Nat,(j : Int) < x → impl_ServOk_1.b (rd_T113 l j) = false
def callSome (l : List S113) (r : Int) : Prop:=(r = -1 ∧ callNone l l.length) ∨ (0 ≤ r ∧ r < l.length ∧ impl_ServOk_1.b (rd_T113 l r) = true)
set_option maxHeartbeats 8000000 in
set_option maxRecDepth 100000 in
theorem impl_Call_166.calls (A0 : Option Addr) (c0 : Nat) (l0 : List S113) (w : World) (hr0 : Kd.C k113 w A0 l0.length l0) :
    Calls Try.prog 166 #[.slice A0 l0.length c0,.func (Fn.func 154) #[] #[]] w fun e w' => (∃ r : Int,callSome l0 r ∧ e = .returned (.int .i64 r)) ∧ Below w.heap.size w w':=by
  have hlen:=hr0.2.1
  have HL:=Aside0.mk hlen
  have HR0:=Aside0.mk hr0
  clear hr0
  go_enter Try.func166,Try.ntmps166
  go_wp2_with fail
  go_loopg [8] l0.length (fun kq v8 w' => ∃ (x8 : Int),v8 = .int .i64 x8 ∧ Aside0 (0 ≤ x8 ∧ x8 + kq = l0.length) ∧ Aside0 (callNone l0 x8) ∧ Aside0 (Below w.heap.size w w'))
  case atStart=>exact ⟨0,by first|rfl|(simp;done)|(simp [*];done),⟨by omega⟩,⟨fun j hj=>by omega⟩,⟨by first|exact Below.refl _ _|exact below_drew (Below.refl _ _)⟩⟩
  case round =>
    obtain ⟨x8,rfl,HX,HN,HB⟩:=hrel
    by_cases hlt : x8 < (l0.length : Int)
    rotate_left
    · have c1 : decide (x8 < (l0.length : Int)) = false:=decide_eq_false hlt
      go_wp2_with fail
      go_ret
      exact ⟨⟨-1,.inl ⟨rfl,fun j hj=>HN.out j (by have:=HX.out;omega)⟩,rfl⟩,HB.out⟩
    have c1 : decide (x8 < (l0.length : Int)) = true:=decide_eq_true hlt
    have p0 : 0 ≤ x8:=HX.out.1
    obtain ⟨ad,e0,hx0,hx1,hx2,hx3⟩:=at_T113 HR0.out x8 p0 hlt
    cases e0
    replace hx0:=(HB.out.cell (World.block_lt_of_cell? w _ hx0)).trans hx0
    replace hx1:=(HB.out.cell (World.block_lt_of_cell? w _ hx1)).trans hx1
    replace hx2:=(HB.out.cell (World.block_lt_of_cell? w _ hx2)).trans hx2
    replace hx3:=(HB.out.cell (World.block_lt_of_cell? w _ hx3)).trans hx3
    have hw1 : x8 + 1 ≤ 9223372036854775807:=by have:=HL.out;omega
    cases hb : impl_ServOk_1.b (rd_T113 l0 x8) with
    | true =>
      have HF:=Aside0.mk ((impl_ServOk_1.total (rd_T113 l0 x8)).trans (by rw [hb]))
      have HS:=Aside0.mk hb
      clear hb
      go_wp2_with (first|(go_at_call 154;refine (impl_ServOk_1.calls _ _ _ _ true _ HF.out).mono ?_;rintro e w1 ⟨rfl,hb1⟩))
      go_ret
      exact ⟨⟨_,.inr ⟨p0,hlt,HS.out⟩,rfl⟩,below_then HB.out HB.out.size hb1⟩
    | false =>
      have HF:=Aside0.mk ((impl_ServOk_1.total (rd_T113 l0 x8)).trans (by rw [hb]))
      have HS:=Aside0.mk hb
      clear hb
      go_wp2_with (first|(go_at_call 154;refine (impl_ServOk_1.calls _ _ _ _ false _ HF.out).mono ?_;rintro e w1 ⟨rfl,hb1⟩))
      go_roundg (gk - 1)
      case measure=>have:=HX.out.2;omega
      case rel =>
        refine ⟨x8 + 1,by first|rfl|(simp;done)|(simp [*];done),⟨by have:=HX.out;omega⟩,⟨fun j hj=>?_⟩,⟨below_then HB.out HB.out.size hb1⟩⟩
        by_cases hj' : (j : Int) < x8
        · exact HN.out j hj'
        · obtain rfl : (j : Int) = x8:=by omega
          exact HS.out

/-! ### impl_Call_153: function 153 -/
/-- Is the test of one of the calls true? -/
def impl_Call_153.f (l0 : List S113) : Option Bool:=some (l0.any impl_ServOk_1.b)
theorem callSome_any {l : List S113} {r : Int} (h : callSome l r) : decide (0 ≤ r) = l.any impl_ServOk_1.b:=by
  rcases h with ⟨rfl,h⟩|⟨h0,h1,h2⟩
  · have : l.any impl_ServOk_1.b = false:=by
      rw [List.any_eq_false]
      intro x hx
      obtain ⟨i,hi,rfl⟩:=List.getElem_of_mem hx
      have:=h i (by omega)
      simp only [rd_T113,Int.toNat_natCast,List.getD_eq_getElem?_getD,List.getElem?_eq_getElem hi,Option.getD_some] at this
      simpa using this
    rw [this];rfl
  · have : l.any impl_ServOk_1.b = true:=by
      rw [List.any_eq_true]
      refine ⟨_,?_,h2⟩
      have hi : r.toNat < l.length:=by omega
      simp only [rd_T113,List.getD_eq_getElem?_getD,List.getElem?_eq_getElem hi,Option.getD_some]
      exact List.getElem_mem hi
    rw [this];simpa using h0
set_option maxHeartbeats 8000000 in
set_option maxRecDepth 100000 in
theorem impl_Call_153.calls (A0 : Option Addr) (c0 : Nat) (l0 : List S113) (r : Bool) (w : World) (hr0 : Kd.C k113 w A0 l0.length l0) (_hc0 : l0.length ≤ c0) (h : impl_Call_153.f l0 = some r) :
    Calls Try.prog 153 #[.slice A0 l0.length c0,.func (Fn.func 154) #[] #[]] w fun e w' => e = .returned (.bool r) ∧ Below w.heap.size w w':=by
  have HR0:=Aside0.mk hr0
  clear hr0
  have HH:=Aside0.mk (Option.some.inj h)
  clear h
  go_enter Try.func153,Try.ntmps153
  go_wp2_with (first|(go_at_call 166;refine (impl_Call_166.calls _ _ _ _ HR0.out).mono ?_;rintro e w1 ⟨⟨r1,hs1,rfl⟩,hb1⟩; have HS1:=Aside0.mk (callSome_any hs1);clear hs1))
  go_ret
  exact ⟨by rw [← HH.out,← HS1.out];rfl,hb1⟩

end Go.Proofs.Ytbipicjijbnbbaa.Hp
