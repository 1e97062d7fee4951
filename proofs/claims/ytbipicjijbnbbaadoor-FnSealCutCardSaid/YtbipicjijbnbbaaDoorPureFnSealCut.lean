/- The law FnSealCut: what is cut is no seal. For every input. -/
import Derived.Test.YtbipicjijbnbbaaDoorHx18
import Derived.Test.YtbipicjijbnbbaaDoorSd
set_option linter.unusedVariables false
set_option linter.unusedSimpArgs false
namespace Go.Proofs.YtbipicjijbnbbaaDoor.Pure
open Go.RowKit Go.Proofs.YtbipicjijbnbbaaDoor.Hp Go.Proofs.YtbipicjijbnbbaaDoorW.PrintWords Go.Proofs.YtbipicjijbnbbaaDoor.Dr
/-- A seal's text ends in a figure. -/
theorem FnSealCut.last {u : Nat} : ∀ (l : List UInt8), (l ++ Lib.decDigits u).getLast? ≠ some 32 := by
  intro l h
  have hne : Lib.decDigits u ≠ [] := by
    by_cases h1 : u < 10
    · rw [Dc.digits_one h1]; simp
    · rw [Dc.digits_more h1]; simp
  rw [List.getLast?_append] at h
  cases hg : (Lib.decDigits u).getLast? with
  | none => exact hne (List.getLast?_eq_none_iff.1 hg)
  | some x =>
    rw [hg] at h
    simp only [Option.some_or, Option.some.injEq] at h
    subst h
    exact (Si.dec_no u).1 (List.mem_of_getLast? hg)
theorem FnSealCut.main (key kind a b c d e : Int) (t : ByteArray) (ht : t = sealText key kind a b c d e) (o : Sl.ok key kind a b c d e = true) : Evs (fun k => laws_FnSealCut.j0 k t false key kind a b c d e) (· = true) := by
  have hz := Sd.text_size o
  obtain ⟨hk, hn⟩ := St.nums o
  have hb := Si.bs_text key kind a b c d e
  rw [← ht] at hz hb
  have hsz : t.size = (Dc.bs t).length := by show _ = t.data.toList.length; first | (simp; done) | (simp; rfl)
  have hw : (Dc.bs (kindWord kind)).length = 6 ∨ (Dc.bs (kindWord kind)).length = 4 := by rcases hk with rfl | rfl | rfl | rfl <;> decide
  have h1 : 1 ≤ t.size := by
    rw [hsz, hb]
    simp only [List.length_append, List.length_cons]
    omega
  refine Evs.step (fun k => by simp only [laws_FnSealCut.j0]; rfl) (Evs.else_ (by simp) ?_)
  rw [w64 (by omega) (by omega), show ((t.size : Int) - 1).toNat = t.size - 1 from by omega]
  refine Evs.then_ (by omega) (Evs.then_ (by omega) ?_)
  obtain ⟨r, hr, hR⟩ := Rw.impl_read (t.extract 0 (t.size - 1)) (by rw [ByteArray.size_extract]; omega)
  obtain ⟨r', hr', hR'⟩ := Rw.impl_read (t.extract 1 t.size) (by rw [ByteArray.size_extract]; omega)
  obtain ⟨r'', hr'', hR''⟩ := Rw.impl_read (t ++ (⟨#[32]⟩ : ByteArray)) (by rw [ByteArray.size_append, Dc.sp_size]; omega)
  rw [hr]
  simp only [Option.bind_some]
  refine Evs.then_ (by omega) ?_
  rw [hr']
  simp only [Option.bind_some]
  refine Evs.then_ (by omega) ?_
  rw [hr'']
  simp only [Option.bind_some]
  have e2 : r' = (0, 0, 0, 0, 0, 0, 0, false) := by
    rcases hR' with ⟨key', kind', a', b', c', d', e', o', ht', _⟩ | ⟨_, h⟩
    · exfalso
      have q := congrArg Dc.bs ht'
      have hx : Dc.bs (t.extract 1 t.size) = (Dc.bs t).drop 1 := by
        show (t.extract 1 t.size).data.toList = _
        rw [Lib.extract_to_end]
        rfl
      obtain ⟨hk', hn'⟩ := St.nums o'
      rw [hx, hb, Si.bs_text] at q
      have hq : (Dc.bs (kindWord kind) ++ 32 :: (Dc.bs (decOf key) ++ 32 :: (Dc.bs (decOf a) ++ 32 :: (Dc.bs (decOf b) ++ 32 :: (Dc.bs (decOf c) ++ 32 :: (Dc.bs (decOf d) ++ 32 :: Dc.bs (decOf e))))))).drop 1 = (Dc.bs (kindWord kind)).drop 1 ++ 32 :: (Dc.bs (decOf key) ++ 32 :: (Dc.bs (decOf a) ++ 32 :: (Dc.bs (decOf b) ++ 32 :: (Dc.bs (decOf c) ++ 32 :: (Dc.bs (decOf d) ++ 32 :: Dc.bs (decOf e)))))) := by
        rw [List.drop_append_of_le_length (by omega)]
      rw [hq] at q
      have hs := (Si.split_at (Si.word_no hk').1 (fun hm => (Si.word_no hk).1 (List.mem_of_mem_drop hm)) q).1
      rcases hk with rfl | rfl | rfl | rfl <;> rcases hk' with rfl | rfl | rfl | rfl <;> exact absurd hs (by decide)
    · exact h
  have e3 : r'' = (0, 0, 0, 0, 0, 0, 0, false) := by
    rcases hR'' with ⟨key', kind', a', b', c', d', e', o', ht', _⟩ | ⟨_, h⟩
    · exfalso
      have q := congrArg Dc.bs ht'
      rw [Dc.bs_append, Dc.bs_sp, Si.bs_text] at q
      obtain ⟨_, hn'⟩ := St.nums o'
      have he := hn' e' (by simp)
      obtain ⟨u, rfl⟩ := Int.eq_ofNat_of_zero_le he.1
      have hl : (Dc.bs (kindWord kind') ++ 32 :: (Dc.bs (decOf key') ++ 32 :: (Dc.bs (decOf a') ++ 32 :: (Dc.bs (decOf b') ++ 32 :: (Dc.bs (decOf c') ++ 32 :: (Dc.bs (decOf d') ++ 32 :: Dc.bs (decOf (u : Int)))))))).getLast? = some 32 := by rw [q]; simp
      have key_ : ∀ (x y : List UInt8), x ++ 32 :: y = (x ++ [32]) ++ y := by intro x y; simp
      rw [Dc.bs_dec, key_, key_ (Dc.bs (decOf key')), ← List.append_assoc, key_ (Dc.bs (decOf a')), ← List.append_assoc, key_ (Dc.bs (decOf b')), ← List.append_assoc, key_ (Dc.bs (decOf c')), ← List.append_assoc, key_ (Dc.bs (decOf d')), ← List.append_assoc] at hl
      exact FnSealCut.last _ hl
    · exact h
  subst e2 e3
  dsimp only
  rcases hR with ⟨key', kind', a', b', c', d', e', o', ht', rfl⟩ | ⟨_, rfl⟩
  · dsimp only
    refine Evs.then_ rfl (Evs.then_ ?_ ?_)
    · by_cases he : key' = key ∧ kind' = kind ∧ a' = a ∧ b' = b ∧ c' = c ∧ d' = d ∧ e' = e
      · exfalso
        obtain ⟨rfl, rfl, rfl, rfl, rfl, rfl, rfl⟩ := he
        have q := congrArg ByteArray.size ht'
        rw [← ht, ByteArray.size_extract] at q
        omega
      · simp only [Bool.or_eq_true, Bool.not_eq_true', beq_eq_false_iff_ne, ne_eq]
        by_cases q0 : key' = key
        · by_cases q1 : kind' = kind
          · by_cases q2 : a' = a
            · by_cases q3 : b' = b
              · by_cases q4 : c' = c
                · by_cases q5 : d' = d
                  · by_cases q6 : e' = e
                    · exact absurd ⟨q0, q1, q2, q3, q4, q5, q6⟩ he
                    · exact .inr (.inr (.inr (.inr (.inr (.inr q6)))))
                  · exact .inr (.inr (.inr (.inr (.inr (.inl q5)))))
                · exact .inr (.inr (.inr (.inr (.inl q4))))
              · exact .inr (.inr (.inr (.inl q3)))
            · exact .inr (.inr (.inl q2))
          · exact .inr (.inl q1)
        · exact .inl q0
    · exact Evs.else_ (by simp) (Evs.now rfl)
  · dsimp only
    exact Evs.always (r := true) (by simp) rfl
theorem FnSealCut : laws_FnSealCut.Pure := by
  intro l0 _ _ w0
  refine Evs.rounds (g := fun k => laws_FnSealCut.f k l0) ?_
  unfold laws_FnSealCut.f
  refine Evs.ite (fun _ => Evs.now rfl) (fun _ => ?_)
  refine (Sd.draw_ev w0).bind ?_
  rintro ⟨key, kind, a, b, c, d, e⟩ _
  simp only [St.impl_text, Option.bind_some]
  refine (St.spec_text key kind a b c d e).bind ?_
  rintro _ rfl
  refine Evs.then_ (by first | rfl | trivial) ?_
  by_cases h : (St.txt key kind a b c d e).toList = []
  · rw [beq_iff_eq.2 h]
    refine Evs.step (fun k => by simp only [laws_FnSealCut.j0]; rfl) (Evs.then_ (by first | rfl | trivial) ?_)
    refine (St.spec_text key kind a b c d e).bind ?_
    rintro _ rfl
    exact Evs.now (by simp)
  · obtain ⟨o, ht⟩ := Sd.ok_of h
    rw [beq_eq_false_iff_ne.2 h]
    exact FnSealCut.main key kind a b c d e _ ht o
end Go.Proofs.YtbipicjijbnbbaaDoor.Pure
