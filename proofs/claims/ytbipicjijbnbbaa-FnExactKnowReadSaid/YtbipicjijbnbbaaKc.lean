/- What follows of which keys one can come to. Plain lists. -/
import Derived.Test.YtbipicjijbnbbaaKn
set_option linter.unusedVariables false
set_option linter.unusedSimpArgs false
namespace Go.Proofs.Ytbipicjijbnbbaa.Rd
open Go.RowKit Go.Proofs.Ytbipicjijbnbbaa.Hp Go.Proofs.YtbipicjijbnbbaaW.PrintWords Go.Proofs.Ytbipicjijbnbbaa.Dr Go.Proofs.Ytbipicjijbnbbaa.Kn

theorem ok_key {key kind a b c d e : Int} (h : Sl.ok key kind a b c d e = true) : 1 ≤ key ∧ key ≤ 60 := by
  rcases Sl.ok_kind h with rfl | rfl | rfl | rfl
  · rw [Sl.ok1, decide_eq_true_eq] at h; omega
  · rw [Sl.ok2, decide_eq_true_eq] at h; omega
  · rw [Sl.ok3, decide_eq_true_eq] at h; omega
  · rw [Sl.ok4, decide_eq_true_eq] at h; omega
theorem rdOf_is (bs : List Bool) (k : Int) : rdOf false bs k = bs.getD k.toNat false := by simp [rdOf]
theorem has_is {bs : List Bool} {k : Int} (h1 : 1 ≤ k) (h2 : k ≤ 60) : ringHas bs k = bs.getD k.toNat false := by simp [ringHas, h1, h2]
theorem can_again (keys : List Int) (ss : List S) : ringF (keysOf (ringF keys ss)) ss = ringF keys ss := by
  refine ring_same fun k => ⟨?_, ?_⟩
  · exact Kn.Can.mono (fun k hk _ _ => mem_keysOf.1 hk) (fun s hs h0 hk => .got hs h0 hk)
  · intro h
    have hr := h.range
    exact .had (mem_keysOf.2 h) hr.1 hr.2
theorem can_sub {keys keys' : List Int} {ss ss' : List S} (hk : ∀ k ∈ keys, k ∈ keys') (hs : ∀ s ∈ ss, s ∈ ss') {k : Int} (h : Kn.Can keys ss k) : Kn.Can keys' ss' k :=
  Kn.Can.mono (fun k h h1 h2 => .had (hk k h) h1 h2) (fun s h h0 hc => .got (hs s h) h0 hc) h
theorem can_rev (keys : List Int) (ss : List S) : ringF keys ss.reverse = ringF keys ss :=
  ring_same fun k => ⟨can_sub (fun _ h => h) (fun s h => List.mem_reverse.1 h), can_sub (fun _ h => h) (fun s h => List.mem_reverse.2 h)⟩
theorem can_nil {ss : List S} {k : Int} (h : Kn.Can [] ss k) : False := by
  induction h with
  | had h => cases h
  | got _ _ _ ih => exact ih
theorem keys_nil (ss : List S) : keysOf (ringF [] ss) = [] := List.eq_nil_iff_forall_not_mem.2 fun k hk => can_nil (mem_keysOf.1 hk)
theorem keys_len (keys : List Int) (ss : List S) : (keysOf (ringF keys ss)).length ≤ 61 := by
  have := keysFrom_len (ringF keys ss) 0 (ringF keys ss).length
  have h := (ring_says keys ss).1
  unfold keysOf
  omega
/-- All keys there are. -/
def allKeys (n : Nat) : List Int := (List.range' 1 n).map fun (j : Nat) => (j : Int)
theorem allKeys_snoc (n : Nat) : allKeys (n + 1) = allKeys n ++ [((n + 1 : Nat) : Int)] := by
  unfold allKeys
  rw [List.range'_1_concat, List.map_append, Nat.add_comm 1 n]
  rfl
theorem mem_allKeys {n : Nat} {k : Int} : k ∈ allKeys n ↔ 1 ≤ k ∧ k ≤ n := by
  unfold allKeys
  simp only [List.mem_map, List.mem_range'_1]
  constructor
  · rintro ⟨j, hj, rfl⟩; omega
  · intro h; exact ⟨k.toNat, by omega, by omega⟩
theorem all_has (ss : List S) {k : Int} (h1 : 1 ≤ k) (h2 : k ≤ 60) : ringHas (ringF (allKeys 60) ss) k = true := (has_can k).2 (.had (mem_allKeys.2 ⟨h1, h2⟩) h1 h2)
theorem has_mono {keys keys' : List Int} {ss ss' : List S} (hk : ∀ k ∈ keys, k ∈ keys') (hs : ∀ s ∈ ss, s ∈ ss') {k : Int} (h : ringHas (ringF keys ss) k = true) : ringHas (ringF keys' ss') k = true := (has_can k).2 (can_sub hk hs ((has_can k).1 h))
theorem keys_sorted (bs : List Bool) (i : Nat) (h : i + 1 < (keysOf bs).length) : (keysOf bs)[i] < (keysOf bs)[i + 1] := by
  have hp : (keysOf bs).Pairwise (· < ·) := by
    unfold keysOf keysFrom
    refine List.pairwise_map.2 (List.Pairwise.imp (fun h => by exact_mod_cast h) (List.Pairwise.filter _ List.pairwise_lt_range'))
  exact List.pairwise_iff_getElem.1 hp i (i + 1) (by omega) h (by omega)
end Go.Proofs.Ytbipicjijbnbbaa.Rd
