/- The law FnExactCacheWith: at every cache, seal and time the program's CacheWith answers as the reference's, writes nothing into what it is given, and its answer shares no memory with it or with another answer. No condition but that a list is no longer than a list can be. -/
import Derived.Test.YtbipicjijbnbbaaHx25
import Derived.Test.YtbipicjijbnbbaaEx
import Derived.Test.YtbipicjijbnbbaaMh2
import Derived.Test.YtbipicjijbnbbaaCw
set_option linter.unusedVariables false
set_option linter.unusedSimpArgs false
namespace Go.Proofs.Ytbipicjijbnbbaa.Pure
open Go.RowKit Go.Proofs.Ytbipicjijbnbbaa.Hp Go.Proofs.YtbipicjijbnbbaaW.PrintWords Go.Proofs.Ytbipicjijbnbbaa.Dr
theorem FnExactCacheWith (l : List S58) (a0 a1 a2 a3 a4 a5 a6 now : Int) (hl : l.length ≤ 9223372036854775807) (_hw : (Lit.int .i64 now).wf = true) : ∃ k, laws_FnExactCacheWith.f k l a0 a1 a2 a3 a4 a5 a6 now = some true := by
  refine Evs.rounds (g := fun k => laws_FnExactCacheWith.f k l a0 a1 a2 a3 a4 a5 a6 now) ?_
  unfold laws_FnExactCacheWith.f
  simp only [Ex.sz_is l 1048576 (by omega) (by omega) hl, laws_toSeal.f, Option.bind_some]
  by_cases hs : (1048576 : Int) < l.length
  · rw [if_pos hs]
    exact Evs.always (r := true) (by simp) rfl
  · rw [if_neg hs]
    refine Evs.else_ (by omega) ?_
    have hss := Ex.to_ev l (by omega)
    have hlm : (l.map Ex.conv).length = l.length := by simp
    have hI := Cw.implWith_ev (l.map Ex.conv) ⟨a0, a1, a2, a3, a4, a5, a6⟩ now (by omega)
    have hS := Cw.specWith_ev (l.map Ex.conv) ⟨a0, a1, a2, a3, a4, a5, a6⟩ now (by omega)
    have hc := Cw.CW_len (l := l.map Ex.conv) (a := ⟨a0, a1, a2, a3, a4, a5, a6⟩) (now := now)
    generalize hC : Cw.CW (l.map Ex.conv) ⟨a0, a1, a2, a3, a4, a5, a6⟩ now = C at hI hS hc
    clear hC
    obtain ⟨c, b⟩ := C
    dsimp only at hc
    refine hss.bind ?_
    rintro _ rfl
    refine hS.bind ?_
    rintro _ rfl
    refine hss.bind ?_
    rintro _ rfl
    refine hI.bind ?_
    rintro _ rfl
    refine (Ex.eq_ev c (by omega)).bind ?_
    rintro _ rfl
    refine Evs.then_ rfl ?_
    refine Evs.step (fun k => by simp only [laws_FnExactCacheWith.j0]; rfl) (Evs.else_ (by simp) ?_)
    refine hss.bind ?_
    rintro _ rfl
    refine (Ex.eq_ev (l.map Ex.conv) (by omega)).bind ?_
    rintro _ rfl
    refine Evs.then_ rfl ?_
    refine (Ms2.mark_ev (l.map Ex.conv) 1 (by omega) (by omega) (by omega)).bind ?_
    rintro _ rfl
    refine Evs.else_ (by first | omega | (dsimp only; omega)) ?_
    refine (Ex.eq_ev c (by omega)).bind ?_
    rintro _ rfl
    refine Evs.then_ rfl ?_
    refine Evs.step (fun k => by simp only [laws_FnExactCacheWith.j1, laws_toSeal.f, Option.bind_some]; rfl) (Evs.else_ (by simp) ?_)
    have hh := Ms2.held_ev c.length 1 (by omega) (by omega) (by omega)
    refine (Ms2.mark_ev c 1 (by omega) (by omega) (by omega)).bind ?_
    rintro _ rfl
    refine hh.bind ?_
    rintro _ rfl
    refine Evs.else_ (by first | omega | (dsimp only; omega)) (Evs.then_ rfl ?_)
    refine hss.bind ?_
    rintro _ rfl
    refine hI.bind ?_
    rintro _ rfl
    refine (Ex.eq_ev c (by omega)).bind ?_
    rintro _ rfl
    refine Evs.then_ rfl ?_
    refine Evs.step (fun k => by simp only [laws_FnExactCacheWith.j2]; rfl) (Evs.else_ (by simp) ?_)
    refine hh.bind ?_
    rintro _ rfl
    exact Evs.else_ (by first | omega | (dsimp only; omega)) (Evs.then_ rfl (Evs.now rfl))
end Go.Proofs.Ytbipicjijbnbbaa.Pure
