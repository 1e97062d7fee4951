/- The law FnWorldNew, for every input. -/
import Derived.Test.YtbipicjijbnbbaaHx43
import Derived.Test.YtbipicjijbnbbaaDr
import Derived.Test.YtbipicjijbnbbaaSl
set_option linter.unusedVariables false
set_option linter.unusedSimpArgs false
namespace Go.Proofs.Ytbipicjijbnbbaa.Pure
open Go.RowKit Go.Proofs.Ytbipicjijbnbbaa.Hp Go.Proofs.YtbipicjijbnbbaaW.PrintWords Go.Proofs.Ytbipicjijbnbbaa.Dr
def cl (i : Int) : S28 := ⟨i, 0, [], [], [], []⟩
def sv (i : Int) : S128 := ⟨i, -1, [], []⟩
def cls : List S28 := [cl 1, cl 2, cl 3]
def svs : List S128 := [sv 4, sv 5]
def nice (b : Int) : Prop := b = 0 ∨ b = 1 ∨ b = 2 ∨ b = 3
theorem wr (n : Int) (h0 : 0 ≤ n) (h1 : n ≤ 100) : wrap64 n = n := by rw [w64 (by omega) (by omega)]
theorem specNew (k : Nat) {b : Int} (h : nice b) : spec_WorldNew.f (k + 30) b = some (0, 10, [], cls, svs, [], b, true) := by
  rcases h with rfl | rfl | rfl | rfl <;> simp [spec_WorldNew.f, spec_WorldNew.l0, spec_WorldNew.l1, spec_ClientNew.f, spec_ServNew.f, spec_KdcNew.f, spec_l6In.f, spec_l1User.f, spec_l1Serv.f, cls, svs, cl, sv, wr]
theorem implNew (k : Nat) {b : Int} (h : nice b) : impl_WorldNew.f (k + 30) b = some (0, 10, [], cls, svs, [], b, true) := by
  rcases h with rfl | rfl | rfl | rfl <;> simp [impl_WorldNew.f, impl_WorldNew.l0, impl_WorldNew.l1, impl_KdcNew.f, impl_within.f, cls, svs, cl, sv, wr]
theorem not_nice {b : Int} (h : ¬ nice b) : ¬ (0 ≤ b ∧ b ≤ 3) := by unfold nice at h; omega
theorem specNo (k : Nat) {b : Int} (h : ¬ nice b) : spec_WorldNew.f k b = some (0, 0, [], [], [], [], 0, false) := by
  unfold spec_WorldNew.f
  rw [Sl.l6In, decide_eq_false (not_nice h)]
  rfl
theorem implNo (k : Nat) {b : Int} (h : ¬ nice b) : impl_WorldNew.f k b = some (0, 0, [], [], [], [], 0, false) := by
  unfold impl_WorldNew.f
  rw [Sl.within, decide_eq_false (not_nice h)]
  rfl
theorem same0 (k : Nat) : laws_lbWorld.f (k + 29) 0 0 [] [] [] [] 0 0 0 [] [] [] [] 0 = some true := by
  simp [laws_lbWorld.f, laws_lbWorld.j0, laws_lbWorld.l0, laws_lbWorld.l1, laws_lbWorld.l2, laws_lbKdc.f, laws_lbSeals.f, laws_lbSeals.l0, laws_lbClient.f, laws_lbClient.j0, laws_lbClient.l0, laws_lbClient.l1, laws_lbCalls.f, laws_lbCalls.l0, laws_lbServ.f]
theorem same (k : Nat) (b : Int) : laws_lbWorld.f (k + 30) 0 10 [] cls svs [] b 0 10 [] cls svs [] b = some true := by
  simp [laws_lbWorld.f, laws_lbWorld.j0, laws_lbWorld.l0, laws_lbWorld.l1, laws_lbWorld.l2, laws_lbKdc.f, laws_lbSeals.f, laws_lbSeals.l0, laws_lbClient.f, laws_lbClient.j0, laws_lbClient.l0, laws_lbClient.l1, laws_lbCalls.f, laws_lbCalls.l0, laws_lbServ.f, cls, svs, cl, sv, rd_T28, rd_T128, wr]
theorem clientYes (i : Int) (h : i = 1 ∨ i = 2 ∨ i = 3) : impl_ClientOk.f i 0 [] [] [] [] = some true := by
  unfold impl_ClientOk.f
  have z : ∀ j : Nat, (j : Int) < ((0 : Nat) : Int) → False := fun j hj => by omega
  rw [← clientB_yes (show ClientP i 0 [] [] [] [] from ⟨by rcases h with rfl | rfl | rfl <;> rfl, rfl, fun j hj => (z j hj).elim, fun j hj => (z j hj).elim, fun j hj => (z j hj).elim, fun j hj => (z j hj).elim⟩)]
theorem kdc_is (k : Nat) : impl_KdcOk.f (k + 1) 10 [] = some true := by
  simp [impl_KdcOk.f, impl_within.f, impl_cacheOk.f, impl_cacheOk.l0]
theorem serv_is (k : Nat) (i : Int) (h : i = 4 ∨ i = 5) : impl_ServOk.f (k + 1) i (-1) [] [] = some true := by
  rcases h with rfl | rfl <;> simp [impl_ServOk.f, impl_servOk.f, impl_within.f, impl_cacheOk.f, impl_cacheOk.l0, impl_Call_153.f]
theorem ok_is (k : Nat) {b : Int} (h : nice b) : impl_WorldOk.f (k + 20) 0 10 [] cls svs [] b = some true := by
  have h1 := clientYes 1 (.inl rfl)
  have h2 := clientYes 2 (.inr (.inl rfl))
  have h3 := clientYes 3 (.inr (.inr rfl))
  have hk : impl_KdcOk.f (k + 20) 10 [] = some true := kdc_is (k + 19)
  have hb : impl_within.f b 0 3 = some true := by rcases h with rfl | rfl | rfl | rfl <;> simp [impl_within.f]
  have ht : impl_timeOk.f 0 = some true := by simp [impl_timeOk.f, impl_within.f]
  unfold impl_WorldOk.f
  rw [ht]
  simp only [Option.bind_some, if_true]
  rw [hk]
  simp only [Option.bind_some, if_true]
  rw [if_pos (show (cls.length : Int) = 3 from rfl), if_pos (show (svs.length : Int) = 2 from rfl), if_neg (show ¬ (([] : List S34).length : Int) > 80 by simp), hb]
  simp only [Option.bind_some]
  have s0 : ∀ k, impl_ServOk.f (k + 1) 4 (-1) [] [] = some true := fun k => serv_is k 4 (.inl rfl)
  have s1 : ∀ k, impl_ServOk.f (k + 1) 5 (-1) [] [] = some true := fun k => serv_is k 5 (.inr rfl)
  simp [impl_WorldOk.j0, impl_WorldOk.l0, impl_WorldOk.l1, cls, svs, rd_T28, rd_T128, cl, sv, h1, h2, h3, s0, s1, wr, impl_Msg_109.f]
theorem none_is {b : Int} (h : nice b) : OkNone 0 10 [] cls svs [] b := ⟨⟨20, by simpa using ok_is 0 h⟩, rfl⟩
def bads (b : Int) : List Int := if b = 0 then [] else [b]
theorem keys_is {b : Int} (h : nice b) : impl_WorldKeys.f 0 10 [] cls svs [] b = some (bads b) := by
  unfold impl_WorldKeys.f
  rw [if_pos (none_is h)]
  rcases h with rfl | rfl | rfl | rfl <;> rfl
theorem seals_is {b : Int} (h : nice b) : impl_WorldSeals.f 0 10 [] cls svs [] b = some [] := by
  unfold impl_WorldSeals.f
  rw [if_pos (none_is h)]
theorem ints_is (k : Nat) (b : Int) : laws_lbInts.f (k + 2) [b] [b] = some true := by
  simp [laws_lbInts.f, laws_lbInts.l0, wr]
theorem end_is (k : Nat) {b : Int} (h : nice b) : laws_FnWorldNew.j1 (k + 25) false 0 10 [] cls svs [] b = some true := by
  have ho := ok_is (k + 4) h
  have hs := seals_is h
  simp only [laws_FnWorldNew.j1]
  rw [if_neg (by simp)]
  rw [show impl_WorldOk.f (k + 24) 0 10 [] cls svs [] b = some true from ho]
  simp only [Option.bind_some, if_true, hs]
  rfl
theorem yes_is (k : Nat) {b : Int} (h : nice b) (x3 : Int) (e : x3 = b) (ys0 ys1 : Int) (ys2 : List S41) (ys3 : List S28) (ys4 : List S128) (ys5 : List S34) (ys6 : Int) :
    laws_FnWorldNew.j0 (k + 26) x3 true true false ys0 ys1 ys2 ys3 ys4 ys5 ys6 0 10 [] cls svs [] b = some true := by
  subst e
  have hk := keys_is h
  have he := end_is k h
  simp only [laws_FnWorldNew.j0]
  rw [if_neg (by simp), hk]
  simp only [Option.bind_some]
  by_cases h0 : x3 = 0
  · subst h0
    rw [if_pos rfl, if_pos (show ((bads 0).length : Int) = 0 from rfl), if_neg (by omega)]
    exact he
  · have hp : x3 > 0 := by rcases h with h | h | h | h <;> omega
    have eb : bads x3 = [x3] := if_neg h0
    rw [if_neg h0, if_pos hp, eb, ints_is]
    exact he
theorem FnWorldNew : laws_FnWorldNew.Pure := by
  intro l0 hm hl hw
  by_cases hn : (l0.length : Int) > 1048576
  · exact ⟨0, by unfold laws_FnWorldNew.f; rw [if_pos hn]⟩
  have hd : Evs (fun k => spec_DrawWorldNew.f k l0) (fun _ => True) := by
    unfold spec_DrawWorldNew.f
    obtain ⟨b, hb, hB⟩ := open_ev hw
    rw [hb]
    simp only [Option.bind_some]
    refine (pick_ev hB (by omega) (by omega) (by omega) (by omega)).bind ?_
    rintro ⟨x, p⟩ _
    exact Evs.now trivial
  obtain ⟨b, ⟨K, hK⟩, _⟩ := hd
  refine ⟨K + 30, ?_⟩
  unfold laws_FnWorldNew.f
  rw [if_neg hn, show spec_DrawWorldNew.f (K + 30) l0 = some b from hK _ (by omega)]
  simp only [Option.bind_some]
  by_cases h : nice b
  · rw [specNew K h]
    simp only [Option.bind_some]
    rw [implNew K h]
    simp only [Option.bind_some]
    rw [if_neg (by simp), same K b]
    simp only [Option.bind_some, if_true]
    exact yes_is (K + 4) h b rfl _ _ _ _ _ _ _
  · rw [specNo _ h]
    simp only [Option.bind_some]
    rw [implNo _ h]
    simp only [Option.bind_some]
    have e30 : laws_lbWorld.f (K + 30) 0 0 [] [] [] [] 0 0 0 [] [] [] [] 0 = some true := same0 (K + 1)
    rw [if_neg (by simp), e30]
    simp only [Option.bind_some, if_true, Bool.not_false]
    have e : laws_lbWorld.f (K + 29) 0 0 [] [] [] [] 0 0 0 [] [] [] [] 0 = some true := same0 K
    simp only [laws_FnWorldNew.j0, if_true]
    rw [if_pos (by rfl), e]
    rfl
end Go.Proofs.Ytbipicjijbnbbaa.Pure
