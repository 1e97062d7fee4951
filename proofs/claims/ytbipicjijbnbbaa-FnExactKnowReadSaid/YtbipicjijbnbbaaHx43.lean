-- hp.py
import Derived.Test.YtbipicjijbnbbaaHx0
import Derived.Test.YtbipicjijbnbbaaHx13
import Derived.Test.YtbipicjijbnbbaaHx32
import Derived.Test.YtbipicjijbnbbaaHx33
import Derived.Test.YtbipicjijbnbbaaSl
namespace Go.Proofs.Ytbipicjijbnbbaa.Hp
open Go.RowKit Go.Proofs.YtbipicjijbnbbaaW.PrintWords Go.Proofs.YtbipicjijbnbbaaW.PrintLast Go.Proofs.YtbipicjijbnbbaaW.PrintMore
attribute [local go_sem] max2_int min2_int max_two min_two max_three min_three max_four min_four   -- for this text's walks alone
set_option linter.unusedVariables false
set_option linter.unusedSimpArgs false
-- squeezed by wip/tools/squeeze.py

/-! ### impl_KnowRead: function 34 -/
-- IMPORT Derived.Test.YtbipicjijbnbbaaSl
def okSeal (s : S41) : Bool := Go.Proofs.Ytbipicjijbnbbaa.Sl.ok s.f0 s.f1 s.f2 s.f3 s.f4 s.f5 s.f6
theorem okSeal_is (s : S41) : impl_SealOk.f s.f0 s.f1 s.f2 s.f3 s.f4 s.f5 s.f6 = some (okSeal s) := Go.Proofs.Ytbipicjijbnbbaa.Sl.impl_ok _ _ _ _ _ _ _
/-- The seals that one can read with the keys of a ring, in order. -/
def readOf (bs : List Bool) (ss : List S41) : List S41 := ss.filter fun s => okSeal s && ringHas bs s.f0
theorem readOf_snoc (bs : List Bool) (l : List S41) (i : Nat) (h : i < l.length) (z : S41) : readOf bs (l.take (i + 1)) = readOf bs (l.take i) ++ (if (okSeal (l.getD i z) && ringHas bs (l.getD i z).f0) = true then [l.getD i z] else []) := by
  unfold readOf
  rw [take_snoc_rd l z i h, List.filter_append, List.filter_cons, List.filter_nil]
theorem readOf_le (bs : List Bool) (l : List S41) (i : Nat) : (readOf bs (l.take i)).length ≤ i := Nat.le_trans (List.length_filter_le _ _) (by rw [List.length_take]; omega)
/-- A row of seals, made with room alone. -/
theorem sMade (w : World) (c base : Nat) (X : Array Value) (hX : X.size = c * 7) (hc : c ≤ maxLen) (hb : base ≤ w.heap.size) : Kd.R k41 41 (w.alloc (.cells X 41)) base (fun _ => True) (.slice (some ⟨w.heap.size, 0, none⟩) 0 c) [] := by
  refine ⟨fun k hk => trivial, [], ⟨rfl, .inr ⟨w.heap.size, c, _, rfl, hb, by simpa using heap_alloc_new w _, Nat.zero_le _, hc, ?_, ?_⟩⟩, Reps.none _ _⟩
  · show _ = c * 7; exact hX
  · simp
/-- Behind an append to a row of another type a ring stands as it stood. -/
theorem ringGrownS {w w1 : World} {base g : Nat} {bs : List Bool} {ok : Nat → Prop} {v : Value} {xs : List S41} {m : Nat} (h : Ring w g bs) (ho : Kd.R k41 41 w base ok v xs) (hg : (w.drewN m).grownBy w1 v.ownBlock) : Ring w1 g bs := by
  refine ⟨(hg.block g (blk_lt h.blk) fun e => ?_).trans h.blk, h.len⟩
  exact Kd.R_ne ho h.blk (by decide) e
theorem newCellAt {w w1 : World} {X : Array Value} {T : TypeId} {v : Value} (i : Nat) (hb : Below (w.alloc (.cells X T)).heap.size (w.alloc (.cells X T)) w1) (h : X[i]? = some v) : w1.cell? ⟨w.heap.size, i, none⟩ = some v :=
  (hb.cell (p := ⟨w.heap.size, i, none⟩) (by simp)).trans ((blk_cell (by simpa using heap_alloc_new w (.cells X T)) i).trans h)
def impl_KnowRead.f (l0 : List Int) (l1 : List S41) : Option (List S41) := if l1.length ≤ 2097152 then some (readOf (ringF l0 l1) l1) else none
set_option maxHeartbeats 16000000 in
set_option maxRecDepth 100000 in
theorem impl_KnowRead.calls (A0 : Option Addr) (c0 : Nat) (l0 : List Int) (A1 : Option Addr) (c1 : Nat) (l1 : List S41) (r : List S41) (w : World) (hr0 : Kd.C (Kd.int .i64) w A0 l0.length l0) (_hc0 : l0.length ≤ c0) (hr1 : Kd.C k41 w A1 l1.length l1) (_hc1 : l1.length ≤ c1) (h : impl_KnowRead.f l0 l1 = some r) :
    Calls Try.prog 34 #[.slice A0 l0.length c0, .slice A1 l1.length c1] w fun e w' => ∃ (v0_ vc_ : Value), e = .returned vc_ ∧ (∀ A n c, v0_ = .slice A n c → vc_ = .slice A n n) ∧ Kd.R k41 41 w' w.heap.size (fun _ => True) v0_ r ∧ Below w.heap.size w w' := by
  have hlen : l1.length ≤ 2097152 := by
    unfold impl_KnowRead.f at h
    split at h
    · assumption
    · cases h
  have h' : readOf (ringF l0 l1) l1 = r := by
    unfold impl_KnowRead.f at h
    rw [if_pos hlen] at h
    exact Option.some.inj h
  subst h'
  clear h
  have HLn := Aside0.mk hlen
  have HR1 := Aside0.mk hr1
  obtain ⟨bs, hF⟩ : ∃ bs, ringF l0 l1 = bs := ⟨_, rfl⟩
  rw [hF]
  obtain ⟨i0, hi, hzz⟩ := Option.map_eq_some_iff.1 info41
  simp only [Prod.mk.injEq] at hzz
  obtain ⟨hz0, hz1, hz2⟩ := hzz
  have hmk : ∀ w : World, (Instr.makeSlice 32 (.int .i64 0) (.int .i64 (l1.length : Int))).run Try.prog w = .ok (.slice (some ⟨w.heap.size, 0, none⟩) 0 l1.length) (w.alloc (.cells (madeCells (Value.agg #[(.int .i64 0), (.int .i64 0), (.int .i64 0), (.int .i64 0), (.int .i64 0), (.int .i64 0), (.int .i64 0)]).cells (l1.length * 7)) 41)) := fun w => by
    have hr := run_make (P := Try.prog) w 32 41 i0 _ Try.underlying32 hi hz0 .i64 .i64 0 (l1.length : Int) (by omega) (by omega) (by rw [hz2]; omega) (by omega)
    simp only [Int.toNat_natCast, Int.toNat_zero] at hr
    rw [hz1] at hr
    exact hr
  have HSz : Aside0 ((madeCells (Value.agg #[(.int .i64 0), (.int .i64 0), (.int .i64 0), (.int .i64 0), (.int .i64 0), (.int .i64 0), (.int .i64 0)]).cells (l1.length * 7)).size = l1.length * 7) := ⟨by simp [size_madeCells]⟩
  generalize madeCells (Value.agg #[(.int .i64 0), (.int .i64 0), (.int .i64 0), (.int .i64 0), (.int .i64 0), (.int .i64 0), (.int .i64 0)]).cells (l1.length * 7) = X at hmk HSz
  clear hi hz0 hz1 hz2 hlen
  go_enter Try.func34, Try.ntmps34
  go_wp2_with fail
  refine (impl_ringOf.calls _ _ _ _ _ _ _ hr0 hr1).mono ?_
  rintro e w1 ⟨⟨g, rfl, hg, hR⟩, hb1⟩
  rw [hF] at hR
  clear hF
  have HO := Aside0.mk (sMade w1 l1.length w.heap.size X HSz.out (by have := HLn.out; unfold maxLen; omega) hb1.size)
  have HB := Aside0.mk (below_alloc hb1 (.cells X 41))
  have HG := Aside0.mk (hR.below (below_alloc (Below.refl _ _) (.cells X 41)))
  have HB1 := Aside0.mk hb1
  clear hR hb1 hg hr0 hr1
  go_wp2_with fail
  go_loopg [6, 17] l1.length (fun kq v6 v17 w' => ∃ (x17 : Int), v17 = .int .i64 x17 ∧ Aside0 (0 ≤ x17 ∧ x17 + kq = l1.length) ∧ Aside0 (Kd.R k41 41 w' w.heap.size (fun _ => True) v6 (readOf bs (l1.take x17.toNat))) ∧ Aside0 (Ring w' g bs) ∧ Aside0 (Below w.heap.size w w'))
  case atStart => exact ⟨0, by first | rfl | (simp; done) | (simp [*]; done), ⟨by omega⟩, HO, HG, HB⟩
  case round =>
    clear HO HG HB HB1 hmk
    obtain ⟨x17, rfl, HX, HO, HG, HB⟩ := hrel
    by_cases hlt : x17 < (l1.length : Int)
    · have d1 : decide (x17 < (l1.length : Int)) = true := decide_eq_true hlt
      have p0 : 0 ≤ x17 := HX.out.1
      obtain ⟨ad, e0, hx0, hx1, hx2, hx3, hx4, hx5, hx6⟩ := at_T41 HR1.out x17 p0 hlt
      cases e0
      replace hx0 := (HB.out.cell (World.block_lt_of_cell? w _ hx0)).trans hx0
      replace hx1 := (HB.out.cell (World.block_lt_of_cell? w _ hx1)).trans hx1
      replace hx2 := (HB.out.cell (World.block_lt_of_cell? w _ hx2)).trans hx2
      replace hx3 := (HB.out.cell (World.block_lt_of_cell? w _ hx3)).trans hx3
      replace hx4 := (HB.out.cell (World.block_lt_of_cell? w _ hx4)).trans hx4
      replace hx5 := (HB.out.cell (World.block_lt_of_cell? w _ hx5)).trans hx5
      replace hx6 := (HB.out.cell (World.block_lt_of_cell? w _ hx6)).trans hx6
      have hw1 : x17 + 1 ≤ 9223372036854775807 := by have := HLn.out; omega
      have HT := Aside0.mk (show readOf bs (l1.take (x17 + 1).toNat) = readOf bs (l1.take x17.toNat) ++ (if (okSeal (rd_T41 l1 x17) && ringHas bs (rd_T41 l1 x17).f0) = true then [rd_T41 l1 x17] else []) by
        rw [show (x17 + 1).toNat = x17.toNat + 1 from by omega, readOf_snoc bs l1 x17.toNat (by omega) z41]; rfl)
      have HQ := Aside0.mk (readOf_le bs l1 x17.toNat)
      generalize rd_T41 l1 x17 = s at *
      have HH := Aside0.mk (okSeal_is s)
      cases ho : okSeal s with
      | false =>
        have HT' := Aside0.mk (show readOf bs (l1.take (x17 + 1).toNat) = readOf bs (l1.take x17.toNat) by rw [HT.out, ho]; simp)
        have HH' := Aside0.mk (HH.out.trans (by rw [ho]))
        clear HT ho HH
        generalize readOf bs (l1.take x17.toNat) = ys at *
        go_wp2_with (first | (go_at_call 22; refine (impl_SealOk.calls _ _ _ _ _ _ _ false _ HH'.out).mono ?_; rintro e w1 ⟨rfl, hb1⟩))
        go_roundg (gk - 1)
        case measure => have := HX.out.2; omega
        case rel => exact ⟨x17 + 1, by first | rfl | (simp; done) | (simp [*]; done), ⟨by have := HX.out; omega⟩, ⟨by rw [HT'.out]; exact Kd.R_below (Kd.R_alloc HO.out _) hb1⟩, ⟨(HG.out.below (below_alloc (Below.refl _ _) _)).below hb1⟩, ⟨below_then (below_alloc HB.out _) (below_alloc HB.out _).size hb1⟩⟩
      | true =>
        have HH' := Aside0.mk (HH.out.trans (by rw [ho]))
        cases hh : ringHas bs s.f0 with
        | false =>
          have HT' := Aside0.mk (show readOf bs (l1.take (x17 + 1).toNat) = readOf bs (l1.take x17.toNat) by rw [HT.out, ho, hh]; simp)
          have Hh := Aside0.mk hh
          clear HT ho HH hh
          generalize readOf bs (l1.take x17.toNat) = ys at *
          go_wp2_with (first | (go_at_call 22; refine (impl_SealOk.calls _ _ _ _ _ _ _ true _ HH'.out).mono ?_; rintro e w1 ⟨rfl, hb1⟩; have hk0 := newCellAt 0 hb1 rfl; have HO1 := Aside0.mk (Kd.R_below (Kd.R_alloc HO.out _) hb1); have HG1 := Aside0.mk ((HG.out.below (below_alloc (Below.refl _ _) _)).below hb1); have HB1 := Aside0.mk (below_then (below_alloc HB.out _) (below_alloc HB.out _).size hb1); clear hb1) | (go_at_call 91; refine (impl_ring_has.calls _ _ _ _ HG1.out).mono ?_; rintro e w2 ⟨rfl, hd⟩; rw [Hh.out]; obtain ⟨m2, rfl⟩ := hd.out; clear hd))
          go_roundg (gk - 1)
          case measure => have := HX.out.2; omega
          case rel => exact ⟨x17 + 1, by first | rfl | (simp; done) | (simp [*]; done), ⟨by have := HX.out; omega⟩, ⟨by rw [HT'.out]; exact Kd.R_drewN HO1.out _⟩, ⟨⟨HG1.out.blk, HG1.out.len⟩⟩, ⟨pw_below_drewN HB1.out _⟩⟩
        | true =>
          have HT' := Aside0.mk (show readOf bs (l1.take (x17 + 1).toNat) = readOf bs (l1.take x17.toNat) ++ [s] by rw [HT.out, ho, hh]; simp)
          have Hh := Aside0.mk hh
          clear HT ho HH hh
          generalize readOf bs (l1.take x17.toNat) = ys at *
          obtain ⟨Ao, co, eo⟩ := Kd.R_slice HO.out
          subst eo
          go_wp2_with (first | (go_at_call 22; refine (impl_SealOk.calls _ _ _ _ _ _ _ true _ HH'.out).mono ?_; rintro e w1 ⟨rfl, hb1⟩; have hk0 := newCellAt 0 hb1 rfl; have hk1 := newCellAt 1 hb1 rfl; have hk2 := newCellAt 2 hb1 rfl; have hk3 := newCellAt 3 hb1 rfl; have hk4 := newCellAt 4 hb1 rfl; have hk5 := newCellAt 5 hb1 rfl; have hk6 := newCellAt 6 hb1 rfl; have HO1 := Aside0.mk (Kd.R_below (Kd.R_alloc HO.out _) hb1); have HG1 := Aside0.mk ((HG.out.below (below_alloc (Below.refl _ _) _)).below hb1); have HB1 := Aside0.mk (below_then (below_alloc HB.out _) (below_alloc HB.out _).size hb1); clear hb1) | (go_at_call 91; refine (impl_ring_has.calls _ _ _ _ HG1.out).mono ?_; rintro e w2 ⟨rfl, hd⟩; rw [Hh.out]; obtain ⟨m2, rfl⟩ := hd.out; clear hd) | ((with_reducible refine gate_builtin (b := .append) (xs := #[.tmp 29, .tmp 31]) rfl ?_); at_builtin; refine Kd.R_append k41 (w0 := w) w.heap.size rfl (.tmp 29) (.tmp 31) 32 41 (.agg #[(.int .i64 0), (.int .i64 0), (.int .i64 0), (.int .i64 0), (.int .i64 0), (.int .i64 0), (.int .i64 0)]) 56 rfl Try.underlying32 info41 rfl (by decide) (by omega) _ ys s [.int .i64 s.f0, .int .i64 s.f1, .int .i64 s.f2, .int .i64 s.f3, .int .i64 s.f4, .int .i64 s.f5, .int .i64 s.f6] (fun _ => True) (fun _ => False) rfl rfl ?aP (fun _ hk => hk.elim) ?aF ?aO ?aB ?aS ?aL ?_; (case aP => exact k41_mkM _ _ _ s); (case aB => exact (pw_below_drewN HB1.out _)); (case aF => exact (fun _ _ => trivial)); (case aO => exact (Kd.R_drewN HO1.out _)); (case aS => exact (below_size (pw_below_drewN HB1.out _))); (case aL => have := HQ.out; have := HX.out; have := HLn.out; omega); intro v584 w13 ho2 hb2 hg2 hat2; have n0_ := Aside0.mk (ringGrownS HG1.out HO1.out hg2); have n1_ := Aside0.mk hb2; have n2_ := Aside0.mk ho2; clear HO HB HG HO1 HB1 HG1; have HG := n0_; have HB := n1_; have HO := n2_; clear n0_ n1_ n2_ ho2 hb2 hg2 hat2))
          go_roundg (gk - 1)
          case measure => have := HX.out.2; omega
          case rel => exact ⟨x17 + 1, by first | rfl | (simp; done) | (simp [*]; done), ⟨by have := HX.out; omega⟩, ⟨by rw [HT'.out]; exact HO.out⟩, HG, HB⟩
    · have d1 : decide (x17 < (l1.length : Int)) = false := decide_eq_false hlt
      have HO' := Aside0.mk (show Kd.R k41 41 wr w.heap.size (fun _ => True) u6 (readOf bs l1) by
        have h := HO.out
        rwa [List.take_of_length_le (by have := HX.out; omega)] at h)
      clear HO
      obtain ⟨Ao, co, eo⟩ := Kd.R_slice HO'.out
      subst eo
      have hle : (readOf bs l1).length ≤ co := by
        obtain ⟨A', c', he, hl', _⟩ := Kd.R_reads HO'.out
        injection he with _ _ h3
        subst h3
        exact hl'
      go_wp2_with fail
      go_ret
      exact ⟨.slice Ao _ co, _, rfl, fun _ _ _ e_ => by cases e_; rfl, HO'.out, HB.out⟩
theorem knowRead_some (keys : List Int) (ss : List S41) (h : ss.length ≤ 2097152) : impl_KnowRead.f keys ss = some (readOf (ringF keys ss) ss) := if_pos h

end Go.Proofs.Ytbipicjijbnbbaa.Hp
