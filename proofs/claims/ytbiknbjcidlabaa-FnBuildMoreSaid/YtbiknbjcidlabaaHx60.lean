-- hp.py
import Derived.Test.YtbiknbjcidlabaaHx0
import Derived.Test.YtbiknbjcidlabaaHx1
import Derived.Test.YtbiknbjcidlabaaHx12
import Derived.Test.YtbiknbjcidlabaaHx21
import Derived.Test.YtbiknbjcidlabaaHx33
import Derived.Test.YtbiknbjcidlabaaHx34
import Derived.Test.YtbiknbjcidlabaaMs
namespace Go.Proofs.Ytbiknbjcidlabaa.Hp
open Go.RowKit Go.Proofs.YtbiknbjcidlabaaW.PrintWords Go.Proofs.YtbiknbjcidlabaaW.PrintLast Go.Proofs.YtbiknbjcidlabaaW.PrintMore
attribute [local go_sem] max2_int min2_int max_two min_two max_three min_three max_four min_four
set_option linter.all false

attribute [local go_sem high] eqA24
-- squeezed by wip/tools/squeeze.py
/-! ### impl_KnowBuild: function 52 -/
def sameS (x y : S24) : Bool := x.f0 == y.f0 && (x.f1 == y.f1 && (x.f2 == y.f2 && (x.f3 == y.f3 && (x.f4 == y.f4 && (x.f5 == y.f5 && (x.f6 == y.f6))))))
theorem sameS_comm (x y : S24) : sameS x y = sameS y x := by
  unfold sameS
  rw [BEq.comm (a := x.f0), BEq.comm (a := x.f1), BEq.comm (a := x.f2), BEq.comm (a := x.f3), BEq.comm (a := x.f4), BEq.comm (a := x.f5), BEq.comm (a := x.f6)]
/-- Can a seal be had, or made? -/
def canSeal (bs : List Bool) (ss : List S24) (s : S24) : Bool := ss.any (sameS · s) || (ringHas bs s.f0 && (hold s == 0 || ringHas bs (hold s)))
def impl_KnowBuild.f (l0 : List Int) (l1 : List S24) (a2_0 a2_1 a2_2 a2_3 : Int) (l2_4 : List S24) : Option Bool := some (Go.Proofs.Ytbiknbjcidlabaa.Ms.msgOk a2_0 a2_1 a2_2 a2_3 l2_4 && l2_4.all (canSeal (ringF l0 l1) l1))
/-- Where the first one is of which p holds; -1, if there is none. -/
def noneBy (p : S24 → Bool) (l : List S24) (x : Int) : Prop := ∀ j : Nat, (j : Int) < x → p (rd_T24 l j) = false
def firstBy (p : S24 → Bool) (l : List S24) (r : Int) : Prop := (r = -1 ∧ noneBy p l l.length) ∨ (0 ≤ r ∧ r < l.length ∧ p (rd_T24 l r) = true)
theorem firstBy_any {p : S24 → Bool} {l : List S24} {r : Int} (h : firstBy p l r) : decide (0 ≤ r) = l.any p := by
  rcases h with ⟨rfl, h⟩ | ⟨h0, h1, h2⟩
  · have : l.any p = false := by
      rw [List.any_eq_false]
      intro x hx
      obtain ⟨i, hi, rfl⟩ := List.getElem_of_mem hx
      have := h i (by omega)
      simp only [rd_T24, Int.toNat_natCast, List.getD_eq_getElem?_getD, List.getElem?_eq_getElem hi, Option.getD_some] at this
      simpa using this
    rw [this]; rfl
  · have : l.any p = true := by
      rw [List.any_eq_true]
      refine ⟨_, ?_, h2⟩
      have hi : r.toNat < l.length := by omega
      simp only [rd_T24, List.getD_eq_getElem?_getD, List.getElem?_eq_getElem hi, Option.getD_some]
      exact List.getElem_mem hi
    rw [this]; simpa using h0
theorem newCellB {w w1 : World} {X : Array Value} {T : TypeId} {v : Value} (i : Nat) (hb : Below (w.alloc (.cells X T)).heap.size (w.alloc (.cells X T)) w1) (h : X[i]? = some v) : w1.cell? ⟨w.heap.size, i, none⟩ = some v :=
  (hb.cell (p := ⟨w.heap.size, i, none⟩) (by simp)).trans ((blk_cell (by simpa using heap_alloc_new w (.cells X T)) i).trans h)
theorem Ring.drewN {w : World} {g : Nat} {bs : List Bool} (h : Ring w g bs) (m : Nat) : Ring (w.drewN m) g bs := ⟨h.blk, h.len⟩
attribute [local go_sem high] eqA24
set_option maxHeartbeats 8000000 in
set_option maxRecDepth 100000 in
theorem sealIndex.calls (A0 : Option Addr) (c0 : Nat) (l0 : List S24) (s : S24) (w : World) (hr0 : Kd.C k24 w A0 l0.length l0) :
    Calls Try.prog 91 #[.slice A0 l0.length c0, .agg #[.int .i64 s.f0, .int .i64 s.f1, .int .i64 s.f2, .int .i64 s.f3, .int .i64 s.f4, .int .i64 s.f5, .int .i64 s.f6]] w fun e w' => (∃ r : Int, firstBy (sameS · s) l0 r ∧ e = .returned (.int .i64 r)) ∧ Below w.heap.size w w' := by
  have hlen := hr0.2.1
  have HL := Aside0.mk hlen
  have HR0 := Aside0.mk hr0
  clear hr0 hlen
  go_enter Try.func91, Try.ntmps91
  go_wp2_with fail
  go_loopg [8] l0.length (fun kq v8 w' => ∃ (x8 : Int), v8 = .int .i64 x8 ∧ Aside0 (0 ≤ x8 ∧ x8 + kq = l0.length) ∧ Aside0 (noneBy (sameS · s) l0 x8) ∧ Aside0 (w'.heap[w.heap.size]? = some (.cells #[.int .i64 s.f0, .int .i64 s.f1, .int .i64 s.f2, .int .i64 s.f3, .int .i64 s.f4, .int .i64 s.f5, .int .i64 s.f6] 24 (0, 0))) ∧ Aside0 (Below w.heap.size w w'))
  case atStart => exact ⟨0, by first | rfl | (simp; done) | (simp [*]; done), ⟨by omega⟩, ⟨fun j hj => by omega⟩, ⟨by simpa using heap_alloc_new w _⟩, ⟨below_alloc (Below.refl _ _) _⟩⟩
  case round =>
    obtain ⟨x8, rfl, HX, HN, HBk, HB⟩ := hrel
    by_cases hlt : x8 < (l0.length : Int)
    · have c1 : decide (x8 < (l0.length : Int)) = true := decide_eq_true hlt
      have p0 : 0 ≤ x8 := HX.out.1
      obtain ⟨ad, e0, hx0, hx1, hx2, hx3, hx4, hx5, hx6⟩ := at_T24 HR0.out x8 p0 hlt
      cases e0
      replace hx0 := (HB.out.cell (World.block_lt_of_cell? w _ hx0)).trans hx0
      replace hx1 := (HB.out.cell (World.block_lt_of_cell? w _ hx1)).trans hx1
      replace hx2 := (HB.out.cell (World.block_lt_of_cell? w _ hx2)).trans hx2
      replace hx3 := (HB.out.cell (World.block_lt_of_cell? w _ hx3)).trans hx3
      replace hx4 := (HB.out.cell (World.block_lt_of_cell? w _ hx4)).trans hx4
      replace hx5 := (HB.out.cell (World.block_lt_of_cell? w _ hx5)).trans hx5
      replace hx6 := (HB.out.cell (World.block_lt_of_cell? w _ hx6)).trans hx6
      have hb0 := (blk_cell HBk.out 0).trans rfl
      have hb1 := (blk_cell HBk.out 1).trans rfl
      have hb2 := (blk_cell HBk.out 2).trans rfl
      have hb3 := (blk_cell HBk.out 3).trans rfl
      have hb4 := (blk_cell HBk.out 4).trans rfl
      have hb5 := (blk_cell HBk.out 5).trans rfl
      have hb6 := (blk_cell HBk.out 6).trans rfl
      have hw1 : x8 + 1 ≤ 9223372036854775807 := by have := HL.out; omega
      have p1 := eq_true p0
      have p2 := eq_true hlt
      have HV := Aside0.mk (sameS_comm (rd_T24 l0 x8) s)
      cases hb : sameS s (rd_T24 l0 x8) with
      | true =>
        have HS := Aside0.mk (HV.out.trans hb)
        have c2 : (s.f0 == (rd_T24 l0 x8).f0 && (s.f1 == (rd_T24 l0 x8).f1 && (s.f2 == (rd_T24 l0 x8).f2 && (s.f3 == (rd_T24 l0 x8).f3 && (s.f4 == (rd_T24 l0 x8).f4 && (s.f5 == (rd_T24 l0 x8).f5 && (s.f6 == (rd_T24 l0 x8).f6))))))) = true := hb
        clear hb HV
        go_wp2_with fail
        go_quiet (fail)
        go_wp2_with fail
        go_ret
        exact ⟨⟨_, .inr ⟨p0, hlt, HS.out⟩, rfl⟩, by repeat (first | (with_reducible first | exact HB.out | apply below_alloc | apply pw_below_drewN | apply below_drew1) | exact HB.out)⟩
      | false =>
        have HS := Aside0.mk (HV.out.trans hb)
        have c2 : (s.f0 == (rd_T24 l0 x8).f0 && (s.f1 == (rd_T24 l0 x8).f1 && (s.f2 == (rd_T24 l0 x8).f2 && (s.f3 == (rd_T24 l0 x8).f3 && (s.f4 == (rd_T24 l0 x8).f4 && (s.f5 == (rd_T24 l0 x8).f5 && (s.f6 == (rd_T24 l0 x8).f6))))))) = false := hb
        clear hb HV
        go_wp2_with fail
        go_quiet (fail)
        go_wp2_with fail
        go_roundg (gk - 1)
        case measure => have := HX.out.2; omega
        case rel =>
          refine ⟨x8 + 1, by first | rfl | (simp; done) | (simp [*]; done), ⟨by have := HX.out; omega⟩, ⟨fun j hj => ?_⟩, ⟨HBk.out⟩, ⟨by repeat (first | (with_reducible first | exact HB.out | apply below_alloc | apply pw_below_drewN | apply below_drew1) | exact HB.out)⟩⟩
          by_cases hj' : (j : Int) < x8
          · exact HN.out j hj'
          · obtain rfl : (j : Int) = x8 := by omega
            exact HS.out
    · have c1 : decide (x8 < (l0.length : Int)) = false := decide_eq_false hlt
      go_wp2_with fail
      go_ret
      exact ⟨⟨-1, .inl ⟨rfl, fun j hj => HN.out j (by have := HX.out; omega)⟩, rfl⟩, HB.out⟩
set_option maxHeartbeats 8000000 in
set_option maxRecDepth 100000 in
theorem sealContains.calls (A0 : Option Addr) (c0 : Nat) (l0 : List S24) (s : S24) (w : World) (hr0 : Kd.C k24 w A0 l0.length l0) :
    Calls Try.prog 82 #[.slice A0 l0.length c0, .agg #[.int .i64 s.f0, .int .i64 s.f1, .int .i64 s.f2, .int .i64 s.f3, .int .i64 s.f4, .int .i64 s.f5, .int .i64 s.f6]] w fun e w' => e = .returned (.bool (l0.any (sameS · s))) ∧ Below w.heap.size w w' := by
  have HR0 := Aside0.mk hr0
  clear hr0
  go_enter Try.func82, Try.ntmps82
  go_wp2_with (first | (go_at_call 91; refine (sealIndex.calls _ _ _ s _ (Kd.C_alloc HR0.out _)).mono ?_; rintro e w1 ⟨⟨r1, hs1, rfl⟩, hb1⟩; have HS1 := Aside0.mk (firstBy_any hs1); have HB1 := Aside0.mk (below_then (below_alloc (Below.refl w.heap.size w) _) (by simp) hb1); clear hs1 hb1))
  go_ret
  exact ⟨by rw [← HS1.out]; rfl, HB1.out⟩
set_option maxHeartbeats 16000000 in
set_option maxRecDepth 100000 in
theorem buildTest.calls (s : S24) (B1 B2 g : Nat) (A1 : Option Addr) (c1 : Nat) (l1 : List S24) (bs : List Bool) (w : World) (hB1 : w.cell? ⟨B1, 0, none⟩ = some (.slice A1 l1.length c1)) (hB2 : w.cell? ⟨B2, 0, none⟩ = some (.pointer (some ⟨g, 0, none⟩))) (hR : Ring w g bs) (hr1 : Kd.C k24 w A1 l1.length l1) :
    Calls Try.prog 81 #[.agg #[.int .i64 s.f0, .int .i64 s.f1, .int .i64 s.f2, .int .i64 s.f3, .int .i64 s.f4, .int .i64 s.f5, .int .i64 s.f6], .pointer (some ⟨B1, 0, none⟩), .pointer (some ⟨B2, 0, none⟩)] w fun e w' => e = .returned (.bool (!canSeal bs l1 s)) ∧ Below w.heap.size w w' := by
  have HC1 := Aside0.mk hB1
  have HC2 := Aside0.mk hB2
  have HG := Aside0.mk hR
  have HR1 := Aside0.mk hr1
  have HH := Aside0.mk (hold_is s)
  have HS : Aside0 (canSeal bs l1 s = (l1.any (sameS · s) || (ringHas bs s.f0 && (hold s == 0 || ringHas bs (hold s))))) := ⟨rfl⟩
  clear hB1 hB2 hR hr1
  generalize hold s = t at HH HS
  generalize canSeal bs l1 s = R at HS
  cases ha : l1.any (sameS · s)
  case' true =>
    have HA := Aside0.mk ha
    obtain rfl : R = true := by rw [HS.out, ha]; rfl
    clear ha HS
  case' false =>
    have HA := Aside0.mk ha
    rw [ha] at HS
    cases hh : ringHas bs s.f0
    case' false =>
      have Hh := Aside0.mk hh
      obtain rfl : R = false := by rw [HS.out, hh]; rfl
      clear ha HS hh
    case' true =>
      have Hh := Aside0.mk hh
      rw [hh] at HS
      by_cases ht : t = 0
      case' pos =>
        subst ht
        obtain rfl : R = true := by rw [HS.out]; rfl
        clear ha HS hh
      case' neg =>
        have z0 : (t == 0) = false := by simpa using ht
        obtain rfl : R = ringHas bs t := by rw [HS.out, z0]; simp
        have z1 : decide (t = 0) = false := decide_eq_false ht
        clear ha HS hh ht
        have hhb : ∃ b, ringHas bs t = b := ⟨_, rfl⟩
        obtain ⟨b, hb⟩ := hhb
        rw [hb]
        have H2 := Aside0.mk hb
        clear hb
  all_goals
    go_enter Try.func81, Try.ntmps81
    go_wp2_with (first | (go_at_call 23; refine (impl_SealHolds.calls _ _ _ _ _ _ _ _ _ HH.out).mono ?_; rintro e w1 ⟨rfl, hb1⟩; have HB1 := Aside0.mk (below_then (below_alloc (Below.refl w.heap.size w) _) (by simp) hb1); have q1 := pw_cell_below HB1.out HC1.out; have hk0 := newCellB 0 hb1 rfl; have hk1 := newCellB 1 hb1 rfl; have hk2 := newCellB 2 hb1 rfl; have hk3 := newCellB 3 hb1 rfl; have hk4 := newCellB 4 hb1 rfl; have hk5 := newCellB 5 hb1 rfl; have hk6 := newCellB 6 hb1 rfl; have HR2 := Aside0.mk (Kd.C_below HR1.out HB1.out); clear hb1) | (go_at_call 82; refine (sealContains.calls _ _ _ s _ HR2.out).mono ?_; rintro e w2 ⟨rfl, hb2⟩; rw [HA.out]; have HB2 := Aside0.mk (below_then HB1.out HB1.out.size hb2); have q2 := pw_cell_below HB2.out HC2.out; have hj0 := pw_cell_below hb2 hk0; have HG2 := Aside0.mk (HG.out.below HB2.out); clear hb2) | (go_at_call 77; (first | refine (impl_ring_has.calls _ bs _ _ HG2.out).mono ?_ | refine (impl_ring_has.calls _ bs _ _ (HG2.out.drewN _)).mono ?_); rintro e w3 ⟨rfl, hd⟩; (first | rw [Hh.out] | rw [H2.out]); obtain ⟨m2, rfl⟩ := hd.out; clear hd))
    go_ret
    exact ⟨by first | rfl | (simp; done), by repeat (first | (with_reducible first | exact HB2.out | apply pw_below_drewN | apply below_drew1) | exact HB2.out)⟩
set_option maxHeartbeats 8000000 in
set_option maxRecDepth 100000 in
theorem buildIndex.calls (A0 : Option Addr) (c0 : Nat) (l0 : List S24) (B1 B2 g : Nat) (A1 : Option Addr) (c1 : Nat) (l1 : List S24) (bs : List Bool) (w : World) (hr0 : Kd.C k24 w A0 l0.length l0) (hB1 : w.cell? ⟨B1, 0, none⟩ = some (.slice A1 l1.length c1)) (hB2 : w.cell? ⟨B2, 0, none⟩ = some (.pointer (some ⟨g, 0, none⟩))) (hR : Ring w g bs) (hr1 : Kd.C k24 w A1 l1.length l1) :
    Calls Try.prog 89 #[.slice A0 l0.length c0, .func (Fn.func 81) #[] #[.pointer (some ⟨B1, 0, none⟩), .pointer (some ⟨B2, 0, none⟩)]] w fun e w' => (∃ r : Int, firstBy (fun x => !canSeal bs l1 x) l0 r ∧ e = .returned (.int .i64 r)) ∧ Below w.heap.size w w' := by
  have hlen := hr0.2.1
  have HL := Aside0.mk hlen
  have HR0 := Aside0.mk hr0
  have HC1 := Aside0.mk hB1
  have HC2 := Aside0.mk hB2
  have HG := Aside0.mk hR
  have HR1 := Aside0.mk hr1
  clear hr0 hB1 hB2 hR hr1 hlen
  go_enter Try.func89, Try.ntmps89
  go_wp2_with fail
  go_loopg [8] l0.length (fun kq v8 w' => ∃ (x8 : Int), v8 = .int .i64 x8 ∧ Aside0 (0 ≤ x8 ∧ x8 + kq = l0.length) ∧ Aside0 (noneBy (fun x => !canSeal bs l1 x) l0 x8) ∧ Aside0 (Below w.heap.size w w'))
  case atStart => exact ⟨0, by first | rfl | (simp; done) | (simp [*]; done), ⟨by omega⟩, ⟨fun j hj => by omega⟩, ⟨by first | exact Below.refl _ _ | exact below_drew (Below.refl _ _)⟩⟩
  case round =>
    obtain ⟨x8, rfl, HX, HN, HB⟩ := hrel
    by_cases hlt : x8 < (l0.length : Int)
    · have d1 : decide (x8 < (l0.length : Int)) = true := decide_eq_true hlt
      have p0 : 0 ≤ x8 := HX.out.1
      obtain ⟨ad, e0, hx0, hx1, hx2, hx3, hx4, hx5, hx6⟩ := at_T24 HR0.out x8 p0 hlt
      cases e0
      replace hx0 := (HB.out.cell (World.block_lt_of_cell? w _ hx0)).trans hx0
      replace hx1 := (HB.out.cell (World.block_lt_of_cell? w _ hx1)).trans hx1
      replace hx2 := (HB.out.cell (World.block_lt_of_cell? w _ hx2)).trans hx2
      replace hx3 := (HB.out.cell (World.block_lt_of_cell? w _ hx3)).trans hx3
      replace hx4 := (HB.out.cell (World.block_lt_of_cell? w _ hx4)).trans hx4
      replace hx5 := (HB.out.cell (World.block_lt_of_cell? w _ hx5)).trans hx5
      replace hx6 := (HB.out.cell (World.block_lt_of_cell? w _ hx6)).trans hx6
      have hw1 : x8 + 1 ≤ 9223372036854775807 := by have := HL.out; omega
      have HF := Aside0.mk (buildTest.calls (rd_T24 l0 x8) B1 B2 g A1 c1 l1 bs wr (pw_cell_below HB.out HC1.out) (pw_cell_below HB.out HC2.out) (HG.out.below HB.out) (Kd.C_below HR1.out HB.out))
      cases hb : canSeal bs l1 (rd_T24 l0 x8) with
      | false =>
        have HS := Aside0.mk hb
        clear hb
        go_wp2_with (first | (go_at_call 81; refine HF.out.mono ?_; rintro e w1 ⟨rfl, hb1⟩; rw [HS.out]))
        go_ret
        exact ⟨⟨_, .inr ⟨p0, hlt, by simp [HS.out]⟩, rfl⟩, below_then HB.out HB.out.size hb1⟩
      | true =>
        have HS := Aside0.mk hb
        clear hb
        go_wp2_with (first | (go_at_call 81; refine HF.out.mono ?_; rintro e w1 ⟨rfl, hb1⟩; rw [HS.out]))
        go_roundg (gk - 1)
        case measure => have := HX.out.2; omega
        case rel =>
          refine ⟨x8 + 1, by first | rfl | (simp; done) | (simp [*]; done), ⟨by have := HX.out; omega⟩, ⟨fun j hj => ?_⟩, ⟨below_then HB.out HB.out.size hb1⟩⟩
          by_cases hj' : (j : Int) < x8
          · exact HN.out j hj'
          · obtain rfl : (j : Int) = x8 := by omega
            simp [HS.out]
    · have d1 : decide (x8 < (l0.length : Int)) = false := decide_eq_false hlt
      go_wp2_with fail
      go_ret
      exact ⟨⟨-1, .inl ⟨rfl, fun j hj => HN.out j (by have := HX.out; omega)⟩, rfl⟩, HB.out⟩
set_option maxHeartbeats 8000000 in
set_option maxRecDepth 100000 in
theorem buildContains.calls (A0 : Option Addr) (c0 : Nat) (l0 : List S24) (B1 B2 g : Nat) (A1 : Option Addr) (c1 : Nat) (l1 : List S24) (bs : List Bool) (w : World) (hr0 : Kd.C k24 w A0 l0.length l0) (hB1 : w.cell? ⟨B1, 0, none⟩ = some (.slice A1 l1.length c1)) (hB2 : w.cell? ⟨B2, 0, none⟩ = some (.pointer (some ⟨g, 0, none⟩))) (hR : Ring w g bs) (hr1 : Kd.C k24 w A1 l1.length l1) :
    Calls Try.prog 70 #[.slice A0 l0.length c0, .func (Fn.func 81) #[] #[.pointer (some ⟨B1, 0, none⟩), .pointer (some ⟨B2, 0, none⟩)]] w fun e w' => e = .returned (.bool (l0.any fun x => !canSeal bs l1 x)) ∧ Below w.heap.size w w' := by
  have HF := Aside0.mk (buildIndex.calls A0 c0 l0 B1 B2 g A1 c1 l1 bs w hr0 hB1 hB2 hR hr1)
  clear hr0 hB1 hB2 hR hr1
  go_enter Try.func70, Try.ntmps70
  go_wp2_with (first | (go_at_call 89; refine HF.out.mono ?_; rintro e w1 ⟨⟨r1, hs1, rfl⟩, hb1⟩; have HS1 := Aside0.mk (firstBy_any hs1); clear hs1))
  go_ret
  exact ⟨by rw [← HS1.out]; rfl, hb1⟩
set_option maxHeartbeats 16000000 in
set_option maxRecDepth 100000 in
theorem impl_KnowBuild.calls (A0 : Option Addr) (c0 : Nat) (l0 : List Int) (A1 : Option Addr) (c1 : Nat) (l1 : List S24) (a2_0 a2_1 a2_2 a2_3 : Int) (A2_4 : Option Addr) (c2_4 : Nat) (l2_4 : List S24) (r : Bool) (w : World) (hr0 : Kd.C (Kd.int .i64) w A0 l0.length l0) (_hc0 : l0.length ≤ c0) (hr1 : Kd.C k24 w A1 l1.length l1) (_hc1 : l1.length ≤ c1) (hr2_4 : Kd.C k24 w A2_4 l2_4.length l2_4) (hc2_4 : l2_4.length ≤ c2_4) (h : impl_KnowBuild.f l0 l1 a2_0 a2_1 a2_2 a2_3 l2_4 = some r) :
    Calls Try.prog 52 #[.slice A0 l0.length c0, .slice A1 l1.length c1, .agg #[.int .i64 a2_0, .int .i64 a2_1, .int .i64 a2_2, .int .i64 a2_3, .slice A2_4 l2_4.length c2_4]] w fun e w' => e = .returned (.bool r) ∧ Below w.heap.size w w' := by
  have h' := Option.some.inj h
  clear h
  have HH := Aside0.mk (Go.Proofs.Ytbiknbjcidlabaa.Ms.impl_is a2_0 a2_1 a2_2 a2_3 l2_4)
  have HC4 := Aside0.mk hc2_4
  have HR4 := Aside0.mk hr2_4
  have HR1 := Aside0.mk hr1
  have HR0 := Aside0.mk hr0
  clear hr0 hr1 hr2_4 hc2_4
  obtain ⟨bs, hF⟩ : ∃ bs, ringF l0 l1 = bs := ⟨_, rfl⟩
  rw [hF] at h'
  have HFs := Aside0.mk hF
  clear hF
  generalize Go.Proofs.Ytbiknbjcidlabaa.Ms.msgOk a2_0 a2_1 a2_2 a2_3 l2_4 = q at h' HH
  cases q
  case' false => obtain rfl : false = r := h'
  case' true => obtain rfl : l2_4.all (canSeal bs l1) = r := h'
  all_goals
    go_enter Try.func52, Try.ntmps52
    go_wp2_with fail
    refine (impl_ringOf.calls _ _ _ _ _ _ _ (Kd.C_alloc (Kd.C_alloc HR0.out _) _) (Kd.C_alloc (Kd.C_alloc HR1.out _) _)).mono ?_
    rintro e w1 ⟨⟨g, rfl, hg, hR⟩, hb1⟩
    rw [HFs.out] at hR
    have HG1 := Aside0.mk hR
    have HB0 := Aside0.mk (below_alloc (below_alloc (Below.refl w.heap.size w) (.cells #[.slice A1 l1.length c1] 34)) (.cells #[.int .i64 a2_0, .int .i64 a2_1, .int .i64 a2_2, .int .i64 a2_3, .slice A2_4 l2_4.length c2_4] 36))
    have HB1 := Aside0.mk (below_then HB0.out HB0.out.size hb1)
    have hz : w.heap.size + 1 < w1.heap.size := by have := hb1.size; simp at this; omega
    have hm0 := newCellB (w := w.alloc (.cells #[.slice A1 l1.length c1] 34)) 0 hb1 rfl
    have hm1 := newCellB (w := w.alloc (.cells #[.slice A1 l1.length c1] 34)) 1 hb1 rfl
    have hm2 := newCellB (w := w.alloc (.cells #[.slice A1 l1.length c1] 34)) 2 hb1 rfl
    have hm3 := newCellB (w := w.alloc (.cells #[.slice A1 l1.length c1] 34)) 3 hb1 rfl
    have hm4 := newCellB (w := w.alloc (.cells #[.slice A1 l1.length c1] 34)) 4 hb1 rfl
    simp only [World.size_alloc] at hm0 hm1 hm2 hm3 hm4
    have HS1 := Aside0.mk ((hb1.cell (p := ⟨w.heap.size, 0, none⟩) (by simp; omega)).trans (show ((w.alloc (.cells #[.slice A1 l1.length c1] 34)).alloc (.cells #[.int .i64 a2_0, .int .i64 a2_1, .int .i64 a2_2, .int .i64 a2_3, .slice A2_4 l2_4.length c2_4] 36)).cell? ⟨w.heap.size, 0, none⟩ = some (.slice A1 l1.length c1) by simp))
    clear hb1 hg hR HFs
    go_wp2_with (first | (go_at_call 29; refine (impl_MsgOk.calls _ _ _ _ _ _ _ _ _ (Kd.C_alloc (Kd.C_below HR4.out HB1.out) _) HC4.out HH.out).mono ?_; rintro e w2 ⟨rfl, hb2⟩; have HB2 := Aside0.mk (below_then (below_alloc HB1.out _) (below_alloc HB1.out _).size hb2); have hn4 := pw_cell_below hb2 (pw_cell_below (below_alloc (Below.refl _ _) _) hm4); have HN7 := Aside0.mk (newCellB 0 hb2 rfl); have HS2 := Aside0.mk (pw_cell_below hb2 (pw_cell_below (below_alloc (Below.refl _ _) _) HS1.out)); have HG2 := Aside0.mk ((HG1.out.below (below_alloc (Below.refl _ _) _)).below hb2); clear hb2) | (go_at_call 70; refine (buildContains.calls _ _ _ _ _ g A1 c1 l1 bs _ (Kd.C_below HR4.out HB2.out) HS2.out HN7.out HG2.out (Kd.C_below HR1.out HB2.out)).mono ?_; rintro e w3 ⟨rfl, hb3⟩; have HB3 := Aside0.mk (below_then HB2.out HB2.out.size hb3); clear hb3))
    go_ret
    exact ⟨by first | rfl | (rw [List.all_eq_not_any_not]; rfl), by first | exact HB3.out | exact HB2.out⟩
end Go.Proofs.Ytbiknbjcidlabaa.Hp
