-- hp.py
import Derived.Test.YtbipicjijbnbbaaDoorHx0
import Derived.Test.YtbipicjijbnbbaaDoorHx8
import Derived.Test.YtbipicjijbnbbaaDoorHx9
import Derived.Test.YtbipicjijbnbbaaDoorSl
import Derived.Deep.RegionHeld3
namespace Go.Proofs.YtbipicjijbnbbaaDoor.Hp
open Go.RowKit Go.Proofs.YtbipicjijbnbbaaDoorW.PrintWords Go.Proofs.YtbipicjijbnbbaaDoorW.PrintLast Go.Proofs.YtbipicjijbnbbaaDoorW.PrintMore
attribute [local go_sem] max2_int min2_int max_two min_two max_three min_three max_four min_four   -- for this text's walks alone
set_option linter.unusedVariables false
set_option linter.unusedSimpArgs false
-- squeezed by wip/tools/squeeze.py
theorem z12x1 {P : Prop} (h : P := by (with_reducible repeat (first | refine blk_drewN ?_ _ | refine blk_drew ?_ | refine blk_alloc ?_ _)); exact HK2.out) : P := h
theorem z12x0 {P : Prop} (h : P := by repeat (first | (with_reducible first | exact HB2.out | apply below_alloc | apply pw_below_drewN | apply below_drew1) | exact HB2.out)) : P := h

/-! ### impl_SealText: function 8 -/
-- IMPORT Derived.Test.YtbipicjijbnbbaaDoorSl
-- IMPORT Derived.Deep.RegionHeld3
/-- The words of the kinds of seals. -/
def kindWord (k : Int) : ByteArray := if k = 1 then ⟨#[116, 105, 99, 107, 101, 116]⟩ else if k = 2 then ⟨#[112, 97, 114, 116]⟩ else if k = 3 then ⟨#[97, 117, 116, 104]⟩ else ⟨#[98, 97, 99, 107]⟩
theorem seal_nums {key kind a b c d e : Int} (h : sealOk key kind a b c d e = true) : (kind = 1 ∨ kind = 2 ∨ kind = 3 ∨ kind = 4) ∧ ∀ x ∈ [key, a, b, c, d, e], 0 ≤ x ∧ x ≤ 100 := by
  rw [Sl.sealOk_is] at h
  have hk := Sl.ok_kind h
  refine ⟨hk, ?_⟩
  simp only [List.mem_cons, List.not_mem_nil, or_false, forall_eq_or_imp, forall_eq]
  rcases hk with rfl | rfl | rfl | rfl
  · rw [Sl.ok1, decide_eq_true_eq] at h; omega
  · rw [Sl.ok2, decide_eq_true_eq] at h; omega
  · rw [Sl.ok3, decide_eq_true_eq] at h; omega
  · rw [Sl.ok4, decide_eq_true_eq] at h; omega
theorem litC (w : World) (a b c d e f : Int) : Kd.C (Kd.int .i64) (w.alloc (.cells #[.int .i64 a, .int .i64 b, .int .i64 c, .int .i64 d, .int .i64 e, .int .i64 f] 3)) (some ⟨w.heap.size, 0, none⟩) 6 [a, b, c, d, e, f] := by
  refine Kd.C_of_reads (d := (0 : Int)) (h1 := fun _ => rfl) ⟨rfl, by decide, fun _ => ⟨_, rfl, fun j hj => ?_⟩⟩
  rcases j with _ | _ | _ | _ | _ | _ | j
  · exact (blk_cell (blk_new w _) 0).trans rfl
  · exact (blk_cell (blk_new w _) 1).trans rfl
  · exact (blk_cell (blk_new w _) 2).trans rfl
  · exact (blk_cell (blk_new w _) 3).trans rfl
  · exact (blk_cell (blk_new w _) 4).trans rfl
  · exact (blk_cell (blk_new w _) 5).trans rfl
  · omega
theorem numbersLit (w : World) (a b c d e f : Int) (hn : ∀ x ∈ [a, b, c, d, e, f], 0 ≤ x ∧ x ≤ 100) (ht : Tens w) :
    Calls Tryd.prog 18 #[.slice (some ⟨w.heap.size, 0, none⟩) 6 6] (w.alloc (.cells #[.int .i64 a, .int .i64 b, .int .i64 c, .int .i64 d, .int .i64 e, .int .i64 f] 3)) fun q w' => q = .returned (.string (numsText [a, b, c, d, e, f])) ∧ Below (w.alloc (.cells #[.int .i64 a, .int .i64 b, .int .i64 c, .int .i64 d, .int .i64 e, .int .i64 f] 3)).heap.size (w.alloc (.cells #[.int .i64 a, .int .i64 b, .int .i64 c, .int .i64 d, .int .i64 e, .int .i64 f] 3)) w' :=
  numbersCalls 6 (.inr rfl) (some ⟨w.heap.size, 0, none⟩) 6 [a, b, c, d, e, f] _ (litC w a b c d e f) rfl hn (ht.on (below_alloc (Below.refl _ _) _))
theorem numbersFar (A : Option Addr) (w : World) (a b c d e f : Int) (hl : Kd.C (Kd.int .i64) w A 6 [a, b, c, d, e, f]) (hn : ∀ x ∈ [a, b, c, d, e, f], 0 ≤ x ∧ x ≤ 100) (ht : Tens w) :
    Calls Tryd.prog 18 #[.slice A 6 6] w fun q w' => q = .returned (.string (numsText [a, b, c, d, e, f])) ∧ Below w.heap.size w w' :=
  numbersCalls 6 (.inr rfl) A 6 [a, b, c, d, e, f] w hl rfl hn ht
theorem sealWords.calls (w : World) : Calls Tryd.prog 17 #[] w fun e w' => e = .returned (.agg #[.string ⟨#[]⟩, .string ⟨#[116, 105, 99, 107, 101, 116]⟩, .string ⟨#[112, 97, 114, 116]⟩, .string ⟨#[97, 117, 116, 104]⟩, .string ⟨#[98, 97, 99, 107]⟩]) ∧ Below w.heap.size w w' := by
  have HB := Aside0.mk (Below.refl w.heap.size w)
  go_enter Tryd.func17, Tryd.ntmps17
  go_wp2
  refine bodyPost_ret (results_cell_row rfl _ _ w.heap.size 37 #[.string ⟨#[]⟩, .string ⟨#[116, 105, 99, 107, 101, 116]⟩, .string ⟨#[112, 97, 114, 116]⟩, .string ⟨#[97, 117, 116, 104]⟩, .string ⟨#[98, 97, 99, 107]⟩] (0, 0) _ rfl (heap_alloc_new w _) Tryd.underlying37 rfl (by kernel_rfl)) rfl ?_
  exact ⟨rfl, below_alloc HB.out _⟩
/-- A seal's text. -/
def sealText (key kind a b c d e : Int) : ByteArray := (kindWord kind ++ ⟨#[32]⟩) ++ numsText [key, a, b, c, d, e]
def impl_SealText.f (key kind a b c d e : Int) : Option ByteArray := some (if sealOk key kind a b c d e = true then sealText key kind a b c d e else ⟨#[]⟩)
set_option maxHeartbeats 16000000 in
set_option maxRecDepth 100000 in
theorem impl_SealText.calls (key kind a b c d e : Int) (r : ByteArray) (w : World) (h : impl_SealText.f key kind a b c d e = some r) (ht : Tens w) :
    Calls Tryd.prog 8 #[.agg #[.int .i64 key, .int .i64 kind, .int .i64 a, .int .i64 b, .int .i64 c, .int .i64 d, .int .i64 e]] w fun e w' => e = .returned (.string r) ∧ Below w.heap.size w w' := by
  obtain rfl : (if sealOk key kind a b c d e = true then sealText key kind a b c d e else ⟨#[]⟩) = r := Option.some.inj h
  clear h
  have hu := Tryd.underlying24
  have HT := Aside0.mk ht
  clear ht
  cases hs : sealOk key kind a b c d e
  · have HC := Aside0.mk (fun w => impl_SealOk.calls key kind a b c d e false w (congrArg some hs))
    clear hs
    go_enter Tryd.func8, Tryd.ntmps8
    go_wp2_with (first | ((with_reducible refine gate_dst (N := 1) rfl ?_); refine box_event ?hg (N := 1) ?hd (cs := #[.int .i64 key, .int .i64 kind, .int .i64 a, .int .i64 b, .int .i64 c, .int .i64 d, .int .i64 e]) (t := 24) ?hr ?_; (case hd => rfl); (case hg => rfl); (case hr => first | (go_simp; done) | (go_simp; rfl)); intro g hg w1 hbox hb; have HK := Aside0.mk hbox; have HB := Aside0.mk hb; clear hbox hb hg; have hc0 : w1.cell? ⟨g, 0, none⟩ = some (.int .i64 key) := (blk_cell HK.out 0).trans rfl; have hc1 : w1.cell? ⟨g, 1, none⟩ = some (.int .i64 kind) := (blk_cell HK.out 1).trans rfl; have hc2 : w1.cell? ⟨g, 2, none⟩ = some (.int .i64 a) := (blk_cell HK.out 2).trans rfl; have hc3 : w1.cell? ⟨g, 3, none⟩ = some (.int .i64 b) := (blk_cell HK.out 3).trans rfl; have hc4 : w1.cell? ⟨g, 4, none⟩ = some (.int .i64 c) := (blk_cell HK.out 4).trans rfl; have hc5 : w1.cell? ⟨g, 5, none⟩ = some (.int .i64 d) := (blk_cell HK.out 5).trans rfl; have hc6 : w1.cell? ⟨g, 6, none⟩ = some (.int .i64 e) := (blk_cell HK.out 6).trans rfl) | (go_at_call 14; refine (HC.out _).mono ?_; rintro e w2 ⟨rfl, hb2⟩; have HB2 := Aside0.mk (below_step HB.out hb2); clear HB hb2))
    go_ret
    exact ⟨rfl, HB2.out⟩
  · have HC := Aside0.mk (fun w => impl_SealOk.calls key kind a b c d e true w (congrArg some hs))
    obtain ⟨hk, hn⟩ := seal_nums hs
    have HN := Aside0.mk hn
    clear hs hn
    have hsz : ∀ l : List Int, (∀ x ∈ l, 0 ≤ x ∧ x ≤ 100) → l.length ≤ 6 → (numsText l).size ≤ 1000 := numsSize
    have HS := Aside0.mk (hsz _ HN.out (Nat.le_refl _))
    clear hsz
    go_enter Tryd.func8, Tryd.ntmps8
    go_wp2_with (first | ((with_reducible refine gate_dst (N := 1) rfl ?_); refine box_event ?hg (N := 1) ?hd (cs := #[.int .i64 key, .int .i64 kind, .int .i64 a, .int .i64 b, .int .i64 c, .int .i64 d, .int .i64 e]) (t := 24) ?hr ?_; (case hd => rfl); (case hg => rfl); (case hr => first | (go_simp; done) | (go_simp; rfl)); intro g hg w1 hbox hb; have HK := Aside0.mk hbox; have HB := Aside0.mk hb; clear hbox hb hg; have hc0 : w1.cell? ⟨g, 0, none⟩ = some (.int .i64 key) := (blk_cell HK.out 0).trans rfl; have hc1 : w1.cell? ⟨g, 1, none⟩ = some (.int .i64 kind) := (blk_cell HK.out 1).trans rfl; have hc2 : w1.cell? ⟨g, 2, none⟩ = some (.int .i64 a) := (blk_cell HK.out 2).trans rfl; have hc3 : w1.cell? ⟨g, 3, none⟩ = some (.int .i64 b) := (blk_cell HK.out 3).trans rfl; have hc4 : w1.cell? ⟨g, 4, none⟩ = some (.int .i64 c) := (blk_cell HK.out 4).trans rfl; have hc5 : w1.cell? ⟨g, 5, none⟩ = some (.int .i64 d) := (blk_cell HK.out 5).trans rfl; have hc6 : w1.cell? ⟨g, 6, none⟩ = some (.int .i64 e) := (blk_cell HK.out 6).trans rfl) | (go_at_call 14; refine (HC.out _).mono ?_; rintro e w2 ⟨rfl, hb2⟩; have HB2 := Aside0.mk (below_step HB.out hb2); have HK2 := Aside0.mk (blk_below HK.out hb2); clear HB HK hb2 hc0 hc1 hc2 hc3 hc4 hc5 hc6))
    rcases hk with rfl | rfl | rfl | rfl
    · have hix : ∀ w : World, (Instr.index 37 (.agg #[.string ⟨#[]⟩, .string ⟨#[116, 105, 99, 107, 101, 116]⟩, .string ⟨#[112, 97, 114, 116]⟩, .string ⟨#[97, 117, 116, 104]⟩, .string ⟨#[98, 97, 99, 107]⟩]) (.int .i64 1)).run Tryd.prog w = .ok (.string ⟨#[116, 105, 99, 107, 101, 116]⟩) w := fun _ => by kernel_rfl
      have f00 : ((⟨#[116, 105, 99, 107, 101, 116]⟩ : ByteArray) ++ (⟨#[32]⟩ : ByteArray)).size + (numsText [key, a, b, c, d, e]).size ≤ 9223372036854775807 := by have := HS.out; first | omega | (show 7 + (numsText [key, a, b, c, d, e]).size ≤ _; omega)
      have f01 := eq_true f00
      have f02 : decide (((⟨#[116, 105, 99, 107, 101, 116]⟩ : ByteArray) ++ (⟨#[32]⟩ : ByteArray)).size + (numsText [key, a, b, c, d, e]).size ≤ 9223372036854775807) = true := decide_eq_true f00
      have f03 : (9223372036854775807 < ((⟨#[116, 105, 99, 107, 101, 116]⟩ : ByteArray) ++ (⟨#[32]⟩ : ByteArray)).size + (numsText [key, a, b, c, d, e]).size) = False := eq_false (Nat.not_lt.2 f00)
      have f10 : 7 + (numsText [key, a, b, c, d, e]).size ≤ 9223372036854775807 := by have := HS.out; first | omega | (show 7 + (numsText [key, a, b, c, d, e]).size ≤ _; omega)
      have f11 := eq_true f10
      have f12 : decide (7 + (numsText [key, a, b, c, d, e]).size ≤ 9223372036854775807) = true := decide_eq_true f10
      have f13 : (9223372036854775807 < 7 + (numsText [key, a, b, c, d, e]).size) = False := eq_false (Nat.not_lt.2 f10)
      go_region_held3 (fun w' => w'.cell? ⟨g, 0, none⟩ = some (.int .i64 key) ∧ w'.cell? ⟨g, 1, none⟩ = some (.int .i64 1) ∧ w'.cell? ⟨g, 2, none⟩ = some (.int .i64 a) ∧ w'.cell? ⟨g, 3, none⟩ = some (.int .i64 b) ∧ w'.cell? ⟨g, 4, none⟩ = some (.int .i64 c) ∧ w'.cell? ⟨g, 5, none⟩ = some (.int .i64 d) ∧ w'.cell? ⟨g, 6, none⟩ = some (.int .i64 e)) (first | exact ⟨(blk_cell z12x1 0).trans rfl, (blk_cell z12x1 1).trans rfl, (blk_cell z12x1 2).trans rfl, (blk_cell z12x1 3).trans rfl, (blk_cell z12x1 4).trans rfl, (blk_cell z12x1 5).trans rfl, (blk_cell z12x1 6).trans rfl⟩ | go_keep) (first | (go_at_call 17; refine (sealWords.calls _).mono ?_; rintro e w3 ⟨rfl, hb3⟩; (try first | have HLC := Aside0.mk (Kd.C_below (Kd.C_drew (litC _ key a b c d e)) hb3) | have HLC := Aside0.mk (Kd.C_below (litC _ key a b c d e) hb3)); have n0_ := Aside0.mk (below_step z12x0 hb3); have n1_ := Aside0.mk (blk_below (g := g) (o := .cells #[.int .i64 key, .int .i64 1, .int .i64 a, .int .i64 b, .int .i64 c, .int .i64 d, .int .i64 e] 24 (0, 0)) z12x1 hb3); clear HB2 HK2 hb3; have HB2 := n0_; have HK2 := n1_; clear n0_ n1_) | (go_at_call 18; (first | refine (numbersLit _ key a b c d e HN.out ?_).mono ?_ | refine (numbersFar _ _ key a b c d e (Kd.C_drew (litC _ key a b c d e)) HN.out ?_).mono ?_ | refine (numbersFar _ _ key a b c d e HLC.out HN.out ?_).mono ?_); (exact HT.out.on z12x0); rintro e w4 ⟨rfl, hb4⟩; have n0_ := Aside0.mk (below_step z12x0 hb4); have n1_ := Aside0.mk (blk_below (g := g) (o := .cells #[.int .i64 key, .int .i64 1, .int .i64 a, .int .i64 b, .int .i64 c, .int .i64 d, .int .i64 e] 24 (0, 0)) z12x1 hb4); clear HB2 HK2 hb4; have HB2 := n0_; have HK2 := n1_; clear n0_ n1_))
      all_goals
        go_wp2
        go_ret
        exact ⟨by first | rfl | (simp [sealText, kindWord]; done), by repeat (first | (with_reducible first | exact HB2.out | apply below_alloc | apply pw_below_drewN | apply below_drew1) | exact HB2.out)⟩
    · have hix : ∀ w : World, (Instr.index 37 (.agg #[.string ⟨#[]⟩, .string ⟨#[116, 105, 99, 107, 101, 116]⟩, .string ⟨#[112, 97, 114, 116]⟩, .string ⟨#[97, 117, 116, 104]⟩, .string ⟨#[98, 97, 99, 107]⟩]) (.int .i64 2)).run Tryd.prog w = .ok (.string ⟨#[112, 97, 114, 116]⟩) w := fun _ => by kernel_rfl
      have f00 : ((⟨#[112, 97, 114, 116]⟩ : ByteArray) ++ (⟨#[32]⟩ : ByteArray)).size + (numsText [key, a, b, c, d, e]).size ≤ 9223372036854775807 := by have := HS.out; first | omega | (show 5 + (numsText [key, a, b, c, d, e]).size ≤ _; omega)
      have f01 := eq_true f00
      have f02 : decide (((⟨#[112, 97, 114, 116]⟩ : ByteArray) ++ (⟨#[32]⟩ : ByteArray)).size + (numsText [key, a, b, c, d, e]).size ≤ 9223372036854775807) = true := decide_eq_true f00
      have f03 : (9223372036854775807 < ((⟨#[112, 97, 114, 116]⟩ : ByteArray) ++ (⟨#[32]⟩ : ByteArray)).size + (numsText [key, a, b, c, d, e]).size) = False := eq_false (Nat.not_lt.2 f00)
      have f10 : 5 + (numsText [key, a, b, c, d, e]).size ≤ 9223372036854775807 := by have := HS.out; first | omega | (show 5 + (numsText [key, a, b, c, d, e]).size ≤ _; omega)
      have f11 := eq_true f10
      have f12 : decide (5 + (numsText [key, a, b, c, d, e]).size ≤ 9223372036854775807) = true := decide_eq_true f10
      have f13 : (9223372036854775807 < 5 + (numsText [key, a, b, c, d, e]).size) = False := eq_false (Nat.not_lt.2 f10)
      go_region_held3 (fun w' => w'.cell? ⟨g, 0, none⟩ = some (.int .i64 key) ∧ w'.cell? ⟨g, 1, none⟩ = some (.int .i64 2) ∧ w'.cell? ⟨g, 2, none⟩ = some (.int .i64 a) ∧ w'.cell? ⟨g, 3, none⟩ = some (.int .i64 b) ∧ w'.cell? ⟨g, 4, none⟩ = some (.int .i64 c) ∧ w'.cell? ⟨g, 5, none⟩ = some (.int .i64 d) ∧ w'.cell? ⟨g, 6, none⟩ = some (.int .i64 e)) (first | exact ⟨(blk_cell z12x1 0).trans rfl, (blk_cell z12x1 1).trans rfl, (blk_cell z12x1 2).trans rfl, (blk_cell z12x1 3).trans rfl, (blk_cell z12x1 4).trans rfl, (blk_cell z12x1 5).trans rfl, (blk_cell z12x1 6).trans rfl⟩ | go_keep) (first | (go_at_call 17; refine (sealWords.calls _).mono ?_; rintro e w3 ⟨rfl, hb3⟩; (try first | have HLC := Aside0.mk (Kd.C_below (Kd.C_drew (litC _ key a b c d e)) hb3) | have HLC := Aside0.mk (Kd.C_below (litC _ key a b c d e) hb3)); have n0_ := Aside0.mk (below_step z12x0 hb3); have n1_ := Aside0.mk (blk_below (g := g) (o := .cells #[.int .i64 key, .int .i64 2, .int .i64 a, .int .i64 b, .int .i64 c, .int .i64 d, .int .i64 e] 24 (0, 0)) z12x1 hb3); clear HB2 HK2 hb3; have HB2 := n0_; have HK2 := n1_; clear n0_ n1_) | (go_at_call 18; (first | refine (numbersLit _ key a b c d e HN.out ?_).mono ?_ | refine (numbersFar _ _ key a b c d e (Kd.C_drew (litC _ key a b c d e)) HN.out ?_).mono ?_ | refine (numbersFar _ _ key a b c d e HLC.out HN.out ?_).mono ?_); (exact HT.out.on z12x0); rintro e w4 ⟨rfl, hb4⟩; have n0_ := Aside0.mk (below_step z12x0 hb4); have n1_ := Aside0.mk (blk_below (g := g) (o := .cells #[.int .i64 key, .int .i64 2, .int .i64 a, .int .i64 b, .int .i64 c, .int .i64 d, .int .i64 e] 24 (0, 0)) z12x1 hb4); clear HB2 HK2 hb4; have HB2 := n0_; have HK2 := n1_; clear n0_ n1_))
      all_goals
        go_wp2
        go_ret
        exact ⟨by first | rfl | (simp [sealText, kindWord]; done), by repeat (first | (with_reducible first | exact HB2.out | apply below_alloc | apply pw_below_drewN | apply below_drew1) | exact HB2.out)⟩
    · have hix : ∀ w : World, (Instr.index 37 (.agg #[.string ⟨#[]⟩, .string ⟨#[116, 105, 99, 107, 101, 116]⟩, .string ⟨#[112, 97, 114, 116]⟩, .string ⟨#[97, 117, 116, 104]⟩, .string ⟨#[98, 97, 99, 107]⟩]) (.int .i64 3)).run Tryd.prog w = .ok (.string ⟨#[97, 117, 116, 104]⟩) w := fun _ => by kernel_rfl
      have f00 : ((⟨#[97, 117, 116, 104]⟩ : ByteArray) ++ (⟨#[32]⟩ : ByteArray)).size + (numsText [key, a, b, c, d, e]).size ≤ 9223372036854775807 := by have := HS.out; first | omega | (show 5 + (numsText [key, a, b, c, d, e]).size ≤ _; omega)
      have f01 := eq_true f00
      have f02 : decide (((⟨#[97, 117, 116, 104]⟩ : ByteArray) ++ (⟨#[32]⟩ : ByteArray)).size + (numsText [key, a, b, c, d, e]).size ≤ 9223372036854775807) = true := decide_eq_true f00
      have f03 : (9223372036854775807 < ((⟨#[97, 117, 116, 104]⟩ : ByteArray) ++ (⟨#[32]⟩ : ByteArray)).size + (numsText [key, a, b, c, d, e]).size) = False := eq_false (Nat.not_lt.2 f00)
      have f10 : 5 + (numsText [key, a, b, c, d, e]).size ≤ 9223372036854775807 := by have := HS.out; first | omega | (show 5 + (numsText [key, a, b, c, d, e]).size ≤ _; omega)
      have f11 := eq_true f10
      have f12 : decide (5 + (numsText [key, a, b, c, d, e]).size ≤ 9223372036854775807) = true := decide_eq_true f10
      have f13 : (9223372036854775807 < 5 + (numsText [key, a, b, c, d, e]).size) = False := eq_false (Nat.not_lt.2 f10)
      go_region_held3 (fun w' => w'.cell? ⟨g, 0, none⟩ = some (.int .i64 key) ∧ w'.cell? ⟨g, 1, none⟩ = some (.int .i64 3) ∧ w'.cell? ⟨g, 2, none⟩ = some (.int .i64 a) ∧ w'.cell? ⟨g, 3, none⟩ = some (.int .i64 b) ∧ w'.cell? ⟨g, 4, none⟩ = some (.int .i64 c) ∧ w'.cell? ⟨g, 5, none⟩ = some (.int .i64 d) ∧ w'.cell? ⟨g, 6, none⟩ = some (.int .i64 e)) (first | exact ⟨(blk_cell z12x1 0).trans rfl, (blk_cell z12x1 1).trans rfl, (blk_cell z12x1 2).trans rfl, (blk_cell z12x1 3).trans rfl, (blk_cell z12x1 4).trans rfl, (blk_cell z12x1 5).trans rfl, (blk_cell z12x1 6).trans rfl⟩ | go_keep) (first | (go_at_call 17; refine (sealWords.calls _).mono ?_; rintro e w3 ⟨rfl, hb3⟩; (try first | have HLC := Aside0.mk (Kd.C_below (Kd.C_drew (litC _ key a b c d e)) hb3) | have HLC := Aside0.mk (Kd.C_below (litC _ key a b c d e) hb3)); have n0_ := Aside0.mk (below_step z12x0 hb3); have n1_ := Aside0.mk (blk_below (g := g) (o := .cells #[.int .i64 key, .int .i64 3, .int .i64 a, .int .i64 b, .int .i64 c, .int .i64 d, .int .i64 e] 24 (0, 0)) z12x1 hb3); clear HB2 HK2 hb3; have HB2 := n0_; have HK2 := n1_; clear n0_ n1_) | (go_at_call 18; (first | refine (numbersLit _ key a b c d e HN.out ?_).mono ?_ | refine (numbersFar _ _ key a b c d e (Kd.C_drew (litC _ key a b c d e)) HN.out ?_).mono ?_ | refine (numbersFar _ _ key a b c d e HLC.out HN.out ?_).mono ?_); (exact HT.out.on z12x0); rintro e w4 ⟨rfl, hb4⟩; have n0_ := Aside0.mk (below_step z12x0 hb4); have n1_ := Aside0.mk (blk_below (g := g) (o := .cells #[.int .i64 key, .int .i64 3, .int .i64 a, .int .i64 b, .int .i64 c, .int .i64 d, .int .i64 e] 24 (0, 0)) z12x1 hb4); clear HB2 HK2 hb4; have HB2 := n0_; have HK2 := n1_; clear n0_ n1_))
      all_goals
        go_wp2
        go_ret
        exact ⟨by first | rfl | (simp [sealText, kindWord]; done), by repeat (first | (with_reducible first | exact HB2.out | apply below_alloc | apply pw_below_drewN | apply below_drew1) | exact HB2.out)⟩
    · have hix : ∀ w : World, (Instr.index 37 (.agg #[.string ⟨#[]⟩, .string ⟨#[116, 105, 99, 107, 101, 116]⟩, .string ⟨#[112, 97, 114, 116]⟩, .string ⟨#[97, 117, 116, 104]⟩, .string ⟨#[98, 97, 99, 107]⟩]) (.int .i64 4)).run Tryd.prog w = .ok (.string ⟨#[98, 97, 99, 107]⟩) w := fun _ => by kernel_rfl
      have f00 : ((⟨#[98, 97, 99, 107]⟩ : ByteArray) ++ (⟨#[32]⟩ : ByteArray)).size + (numsText [key, a, b, c, d, e]).size ≤ 9223372036854775807 := by have := HS.out; first | omega | (show 5 + (numsText [key, a, b, c, d, e]).size ≤ _; omega)
      have f01 := eq_true f00
      have f02 : decide (((⟨#[98, 97, 99, 107]⟩ : ByteArray) ++ (⟨#[32]⟩ : ByteArray)).size + (numsText [key, a, b, c, d, e]).size ≤ 9223372036854775807) = true := decide_eq_true f00
      have f03 : (9223372036854775807 < ((⟨#[98, 97, 99, 107]⟩ : ByteArray) ++ (⟨#[32]⟩ : ByteArray)).size + (numsText [key, a, b, c, d, e]).size) = False := eq_false (Nat.not_lt.2 f00)
      have f10 : 5 + (numsText [key, a, b, c, d, e]).size ≤ 9223372036854775807 := by have := HS.out; first | omega | (show 5 + (numsText [key, a, b, c, d, e]).size ≤ _; omega)
      have f11 := eq_true f10
      have f12 : decide (5 + (numsText [key, a, b, c, d, e]).size ≤ 9223372036854775807) = true := decide_eq_true f10
      have f13 : (9223372036854775807 < 5 + (numsText [key, a, b, c, d, e]).size) = False := eq_false (Nat.not_lt.2 f10)
      go_region_held3 (fun w' => w'.cell? ⟨g, 0, none⟩ = some (.int .i64 key) ∧ w'.cell? ⟨g, 1, none⟩ = some (.int .i64 4) ∧ w'.cell? ⟨g, 2, none⟩ = some (.int .i64 a) ∧ w'.cell? ⟨g, 3, none⟩ = some (.int .i64 b) ∧ w'.cell? ⟨g, 4, none⟩ = some (.int .i64 c) ∧ w'.cell? ⟨g, 5, none⟩ = some (.int .i64 d) ∧ w'.cell? ⟨g, 6, none⟩ = some (.int .i64 e)) (first | exact ⟨(blk_cell z12x1 0).trans rfl, (blk_cell z12x1 1).trans rfl, (blk_cell z12x1 2).trans rfl, (blk_cell z12x1 3).trans rfl, (blk_cell z12x1 4).trans rfl, (blk_cell z12x1 5).trans rfl, (blk_cell z12x1 6).trans rfl⟩ | go_keep) (first | (go_at_call 17; refine (sealWords.calls _).mono ?_; rintro e w3 ⟨rfl, hb3⟩; (try first | have HLC := Aside0.mk (Kd.C_below (Kd.C_drew (litC _ key a b c d e)) hb3) | have HLC := Aside0.mk (Kd.C_below (litC _ key a b c d e) hb3)); have n0_ := Aside0.mk (below_step z12x0 hb3); have n1_ := Aside0.mk (blk_below (g := g) (o := .cells #[.int .i64 key, .int .i64 4, .int .i64 a, .int .i64 b, .int .i64 c, .int .i64 d, .int .i64 e] 24 (0, 0)) z12x1 hb3); clear HB2 HK2 hb3; have HB2 := n0_; have HK2 := n1_; clear n0_ n1_) | (go_at_call 18; (first | refine (numbersLit _ key a b c d e HN.out ?_).mono ?_ | refine (numbersFar _ _ key a b c d e (Kd.C_drew (litC _ key a b c d e)) HN.out ?_).mono ?_ | refine (numbersFar _ _ key a b c d e HLC.out HN.out ?_).mono ?_); (exact HT.out.on z12x0); rintro e w4 ⟨rfl, hb4⟩; have n0_ := Aside0.mk (below_step z12x0 hb4); have n1_ := Aside0.mk (blk_below (g := g) (o := .cells #[.int .i64 key, .int .i64 4, .int .i64 a, .int .i64 b, .int .i64 c, .int .i64 d, .int .i64 e] 24 (0, 0)) z12x1 hb4); clear HB2 HK2 hb4; have HB2 := n0_; have HK2 := n1_; clear n0_ n1_))
      all_goals
        go_wp2
        go_ret
        exact ⟨by first | rfl | (simp [sealText, kindWord]; done), by repeat (first | (with_reducible first | exact HB2.out | apply below_alloc | apply pw_below_drewN | apply below_drew1) | exact HB2.out)⟩

end Go.Proofs.YtbipicjijbnbbaaDoor.Hp
