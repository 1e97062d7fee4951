/- What the texts of seals are, the program's and the reference's alike. No condition. -/
import Derived.Test.YtbipicjijbnbbaaDoorHx12
import Derived.Test.YtbipicjijbnbbaaDoorHx15
import Derived.Test.YtbipicjijbnbbaaDoorDr0
import Derived.Test.YtbipicjijbnbbaaDoorSl
import Derived.Test.YtbipicjijbnbbaaDoorDc
import Derived.WideShapes
set_option linter.unusedVariables false
set_option linter.unusedSimpArgs false
namespace Go.Proofs.YtbipicjijbnbbaaDoor.St
open Go.RowKit Go.Proofs.YtbipicjijbnbbaaDoor.Hp Go.Proofs.YtbipicjijbnbbaaDoorW.PrintWords Go.Proofs.YtbipicjijbnbbaaDoor.Dr Go.Proofs.YtbipicjijbnbbaaDoor.Dc

/-- A seal's text; the empty one, if the seal is not ok. -/
def txt (key kind a b c d e : Int) : ByteArray := if Sl.ok key kind a b c d e = true then sealText key kind a b c d e else ⟨#[]⟩
theorem impl_text (key kind a b c d e : Int) : impl_SealText.f key kind a b c d e = some (txt key kind a b c d e) := by
  unfold impl_SealText.f txt
  rw [Sl.sealOk_is]
theorem nums {key kind a b c d e : Int} (h : Sl.ok key kind a b c d e = true) : (kind = 1 ∨ kind = 2 ∨ kind = 3 ∨ kind = 4) ∧ ∀ x ∈ [key, a, b, c, d, e], 0 ≤ x ∧ x ≤ 100 := seal_nums (by rw [Sl.sealOk_is]; exact h)
theorem word_size (k : Int) : (kindWord k).size ≤ 6 := by
  unfold kindWord
  split
  · decide
  · split
    · decide
    · split <;> decide
theorem spec_text (key kind a b c d e : Int) : Evs (fun k => spec_SealText.f k key kind a b c d e) (· = txt key kind a b c d e) := by
  unfold spec_SealText.f txt
  simp only [Sl.spec_ok, Option.bind_some]
  cases ho : Sl.ok key kind a b c d e with
  | false => exact Evs.else_ (by simp) (Evs.now (by simp))
  | true =>
    refine Evs.then_ rfl ?_
    obtain ⟨hk, hn⟩ := nums ho
    have n0 := hn key (by simp)
    have n1 := hn a (by simp)
    have n2 := hn b (by simp)
    have n3 := hn c (by simp)
    have n4 := hn d (by simp)
    have n5 := hn e (by simp)
    have s0 := dec_size n0.1 n0.2
    have s1 := dec_size n1.1 n1.2
    have s2 := dec_size n2.1 n2.2
    have s3 := dec_size n3.1 n3.2
    have s4 := dec_size n4.1 n4.2
    have s5 := dec_size n5.1 n5.2
    have sw := word_size kind
    simp only [spec_l1Names.f, Option.bind_some]
    obtain ⟨W, hW, hw⟩ : ∃ W, rdOf ByteArray.empty ([(⟨#[]⟩ : ByteArray), (⟨#[116, 105, 99, 107, 101, 116]⟩ : ByteArray), (⟨#[112, 97, 114, 116]⟩ : ByteArray), (⟨#[97, 117, 116, 104]⟩ : ByteArray), (⟨#[98, 97, 99, 107]⟩ : ByteArray)] : List ByteArray) kind = W ∧ W = kindWord kind := by
      rcases hk with rfl | rfl | rfl | rfl <;> exact ⟨_, rfl, rfl⟩
    rw [hW]
    subst hw
    refine Evs.then_ (by omega) (Evs.then_ (by simp only [List.length_cons, List.length_nil]; omega) (Evs.then_ (by omega) ((dec_ev n0).bind ?_)))
    rintro _ rfl
    refine Evs.then_ (by simp only [ByteArray.size_append, sp_size]; omega) (Evs.then_ (by simp only [ByteArray.size_append, sp_size]; omega) ((dec_ev n1).bind ?_))
    rintro _ rfl
    refine Evs.then_ (by simp only [ByteArray.size_append, sp_size]; omega) (Evs.then_ (by simp only [ByteArray.size_append, sp_size]; omega) ((dec_ev n2).bind ?_))
    rintro _ rfl
    refine Evs.then_ (by simp only [ByteArray.size_append, sp_size]; omega) (Evs.then_ (by simp only [ByteArray.size_append, sp_size]; omega) ((dec_ev n3).bind ?_))
    rintro _ rfl
    refine Evs.then_ (by simp only [ByteArray.size_append, sp_size]; omega) (Evs.then_ (by simp only [ByteArray.size_append, sp_size]; omega) ((dec_ev n4).bind ?_))
    rintro _ rfl
    refine Evs.then_ (by simp only [ByteArray.size_append, sp_size]; omega) (Evs.then_ (by simp only [ByteArray.size_append, sp_size]; omega) ((dec_ev n5).bind ?_))
    rintro _ rfl
    refine Evs.then_ (by simp only [ByteArray.size_append, sp_size]; omega) (Evs.now (bs_inj ?_))
    unfold sealText
    simp only [if_true, bs_append, bs_nums, bs_sp, List.map_cons, List.map_nil, Lib.join_cons, Lib.joinTail, List.flatten_cons, List.flatten_nil, List.append_assoc, List.append_nil]
end Go.Proofs.YtbipicjijbnbbaaDoor.St
