/- What is drawn for the laws of a seal's text. -/
import Derived.Test.YtbipicjijbnbbaaDoorHx6
import Derived.Test.YtbipicjijbnbbaaDoorDr
import Derived.Test.YtbipicjijbnbbaaDoorRw
set_option linter.unusedVariables false
set_option linter.unusedSimpArgs false
namespace Go.Proofs.YtbipicjijbnbbaaDoor.Sd
open Go.RowKit Go.Proofs.YtbipicjijbnbbaaDoor.Hp Go.Proofs.YtbipicjijbnbbaaDoorW.PrintWords Go.Proofs.YtbipicjijbnbbaaDoor.Dr
theorem draw_ev {l : List Int} (h : ∀ x ∈ l, (Lit.int .u8 x).wf = true) : Evs (fun k => spec_DrawSealText.f k l) (fun _ => True) := by
  unfold spec_DrawSealText.f
  obtain ⟨b, hb, hB⟩ := open_ev h
  rw [hb]
  simp only [Option.bind_some]
  refine (seal_ev hB (by omega) (by omega)).bind ?_
  rintro ⟨s1, s2, s3, s4, s5, s6, s7, p1⟩ _
  exact Evs.now trivial
theorem ok_of {key kind a b c d e : Int} (h : ¬ (St.txt key kind a b c d e).toList = []) : Sl.ok key kind a b c d e = true ∧ St.txt key kind a b c d e = sealText key kind a b c d e := by
  unfold St.txt at h ⊢
  by_cases ho : Sl.ok key kind a b c d e = true
  · exact ⟨ho, by rw [if_pos ho]⟩
  · rw [if_neg ho, Dc.toList_is] at h
    exact absurd rfl h
theorem text_size {key kind a b c d e : Int} (h : Sl.ok key kind a b c d e = true) : (sealText key kind a b c d e).size ≤ 2000 := by
  obtain ⟨hk, hn⟩ := St.nums h
  have := numsSize [key, a, b, c, d, e] hn (by simp)
  have hw := St.word_size kind
  unfold sealText
  rw [ByteArray.size_append, ByteArray.size_append, Dc.sp_size]
  omega
end Go.Proofs.YtbipicjijbnbbaaDoor.Sd
