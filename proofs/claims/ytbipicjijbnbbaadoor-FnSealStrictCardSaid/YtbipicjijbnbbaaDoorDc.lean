/- What a number's text is, the reference's as the library's; bytes of texts. -/
import Derived.Test.YtbipicjijbnbbaaDoorHx9
import Derived.Test.YtbipicjijbnbbaaDoorHx14
import Derived.Test.YtbipicjijbnbbaaDoorDr0
import Derived.WideShapes
set_option linter.unusedVariables false
set_option linter.unusedSimpArgs false
namespace Go.Proofs.YtbipicjijbnbbaaDoor.Dc
open Go.RowKit Go.Proofs.YtbipicjijbnbbaaDoor.Hp Go.Proofs.YtbipicjijbnbbaaDoorW.PrintWords Go.Proofs.YtbipicjijbnbbaaDoor.Dr

/-- A text's bytes. -/
def bs (x : ByteArray) : List UInt8 := x.data.toList
theorem bs_inj {a b : ByteArray} (h : bs a = bs b) : a = b := Go.WideShapes.bytes_inj h
theorem bs_append (a b : ByteArray) : bs (a ++ b) = bs a ++ bs b := by simp [bs, ByteArray.data_append]
theorem toList_is (a : ByteArray) : a.toList = bs a := ByteArray.toList_eq a
theorem toList_inj {a b : ByteArray} : a.toList = b.toList ↔ a = b := ⟨fun h => bs_inj (by rw [← toList_is, ← toList_is, h]), fun h => by rw [h]⟩
theorem bs_dec (u : Nat) : bs (decOf (u : Int)) = Lib.decDigits u := by show Lib.itoa (u : Int) = _; exact Lib.itoa_nonneg u
theorem bs_nums (l : List Int) : bs (numsText l) = Lib.join (l.map fun x => bs (decOf x)) [32] := by
  show Lib.join ((l.map decOf).map (·.data.toList)) [32] = _
  rw [List.map_map]
  rfl
theorem sp_size : (⟨#[32]⟩ : ByteArray).size = 1 := rfl
theorem bs_sp : bs (⟨#[32]⟩ : ByteArray) = [32] := rfl
theorem dec_size {x : Int} (h0 : 0 ≤ x) (h1 : x ≤ 100) : (decOf x).size ≤ 21 := by
  have := decLen x h0 h1
  show (Lib.itoa x).toArray.size ≤ 21
  rw [List.size_toArray]
  exact this
theorem digits_one {u : Nat} (h : u < 10) : Lib.decDigits u = [UInt8.ofNat (48 + u)] := by rw [Lib.decDigits, dif_pos h]
theorem digits_more {u : Nat} (h : ¬ u < 10) : Lib.decDigits u = Lib.decDigits (u / 10) ++ [UInt8.ofNat (48 + u % 10)] := by rw [Lib.decDigits, dif_neg h]
theorem dec_ev0 : ∀ u : Nat, u ≤ 100 → Evs (fun k => spec_l6Dec.f k (u : Int)) (· = decOf (u : Int)) := by
  intro u
  induction u using Nat.strongRecOn with
  | _ u ih =>
    intro hu
    refine Evs.step (fun k => by simp only [spec_l6Dec.f]; rfl) (Evs.else_ (by omega) (Evs.else_ (by omega) ?_))
    by_cases h : u < 10
    · refine Evs.then_ (by omega) (Evs.now (bs_inj ?_))
      rw [bs_dec, digits_one h, w64 (by omega) (by omega), show ((48 + (u : Int)) % 256) = ((48 + u : Nat) : Int) from by omega]
      rfl
    · refine Evs.else_ (by omega) ?_
      rw [show Int.tdiv (u : Int) 10 = ((u / 10 : Nat) : Int) from by rw [Int.tdiv_eq_ediv_of_nonneg (by omega)]; omega, show Int.tmod (u : Int) 10 = ((u % 10 : Nat) : Int) from by rw [Int.tmod_eq_emod_of_nonneg (by omega)]; omega,
        w64 (x := ((u / 10 : Nat) : Int)) (by omega) (by omega), w64 (x := 48 + ((u % 10 : Nat) : Int)) (by omega) (by omega), show ((48 + ((u % 10 : Nat) : Int)) % 256) = ((48 + u % 10 : Nat) : Int) from by omega]
      refine (ih (u / 10) (by omega) (by omega)).bind ?_
      rintro _ rfl
      simp only [Option.bind_some]
      have hs := dec_size (x := ((u / 10 : Nat) : Int)) (by omega) (by omega)
      refine Evs.then_ (by rw [strOfNums_size]; simp only [List.length_cons, List.length_nil]; omega) (Evs.now (bs_inj ?_))
      rw [bs_append, bs_dec, bs_dec, digits_more h]
      rfl
theorem dec_ev {x : Int} (h : 0 ≤ x ∧ x ≤ 100) : Evs (fun k => spec_l6Dec.f k x) (· = decOf x) := by
  obtain ⟨u, rfl⟩ := Int.eq_ofNat_of_zero_le h.1
  exact dec_ev0 u (by omega)
theorem dec_some {x : Int} (h : 0 ≤ x ∧ x ≤ 100) : ∃ k, spec_l6Dec.f k x = some (decOf x) := by
  exact Evs.rounds (g := fun k => spec_l6Dec.f k x) (dec_ev h)
end Go.Proofs.YtbipicjijbnbbaaDoor.Dc
