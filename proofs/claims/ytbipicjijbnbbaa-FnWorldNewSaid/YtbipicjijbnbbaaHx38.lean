-- hp.py
import Derived.Test.YtbipicjijbnbbaaHx0
namespace Go.Proofs.Ytbipicjijbnbbaa.Hp
open Go.RowKit Go.Proofs.YtbipicjijbnbbaaW.PrintWords Go.Proofs.YtbipicjijbnbbaaW.PrintLast Go.Proofs.YtbipicjijbnbbaaW.PrintMore
attribute [local go_sem] max2_int min2_int max_two min_two max_three min_three max_four min_four   -- for this text's walks alone
set_option linter.unusedVariables false
set_option linter.unusedSimpArgs false
-- squeezed by wip/tools/squeeze.py

/-- A state of type 69 at block g of W;what its slices lead to came in by w0. -/
def IsS69 (w0 W : World) (g : Nat) (f0 : Int) (f1 : Int) (f2 : List (S41)) (f3 : List (S28)) (f4 : List (S128)) (f5 : List (S34)) (f6 : Int) : Prop:=∃ A2 c2,∃ A3 c3,∃ A4 c4,∃ A5 c5,W.heap[g]? = some (.cells #[.int .i64 f0,.int .i64 f1,.slice A2 f2.length c2,.slice A3 f3.length c3,.slice A4 f4.length c4,.slice A5 f5.length c5,.int .i64 f6] 69 (0,0)) ∧ w0.heap.size ≤ g ∧ Kd.C k41 w0 A2 f2.length f2 ∧ Kd.C k28 w0 A3 f3.length f3 ∧ Kd.C k128 w0 A4 f4.length f4 ∧ Kd.C k34 w0 A5 f5.length f5
theorem IsS69.grown {w0 W : World} {g : Nat} {f0 : Int} {f1 : Int} {f2 : List (S41)} {f3 : List (S28)} {f4 : List (S128)} {f5 : List (S34)} {f6 : Int} {W1 : World} {row : Option Nat} (h : IsS69 w0 W g f0 f1 f2 f3 f4 f5 f6) (hw : W.grownBy W1 row) (hne : some g ≠ row) : IsS69 w0 W1 g f0 f1 f2 f3 f4 f5 f6:=by
 obtain ⟨A2,c2,A3,c3,A4,c4,A5,c5,hb,hg,hr2,hr3,hr4,hr5⟩:=h
 exact ⟨A2,c2,A3,c3,A4,c4,A5,c5,blk_grown hb hw hne,hg,hr2,hr3,hr4,hr5⟩
theorem IsS69.own_neN {w0 W : World} {g : Nat} {f0 : Int} {f1 : Int} {f2 : List (S41)} {f3 : List (S28)} {f4 : List (S128)} {f5 : List (S34)} {f6 : Int} {α : Type} {d : Kd α} {e : Nat} {base : Nat} {ok : Nat → Prop} {v : Value} {xs : List α} (h : IsS69 w0 W g f0 f1 f2 f3 f4 f5 f6) (ho : Kd.N d e W base ok v xs) (ht : e ≠ 69) : some g ≠ v.ownBlock:=by
 obtain ⟨A2,c2,A3,c3,A4,c4,A5,c5,hb,hg,hr2,hr3,hr4,hr5⟩:=h
 exact Kd.N_ne ho hb ht
theorem IsS69.fresh {w0 W : World} {g : Nat} {f0 : Int} {f1 : Int} {f2 : List (S41)} {f3 : List (S28)} {f4 : List (S128)} {f5 : List (S34)} {f6 : Int} (h : IsS69 w0 W g f0 f1 f2 f3 f4 f5 f6) : ∀ k,W.heap.size ≤ k → k ≠ g:=by
 obtain ⟨A2,c2,A3,c3,A4,c4,A5,c5,hb,hg,hr2,hr3,hr4,hr5⟩:=h
 exact Kd.freshB hb
theorem IsS69.kept {w0 W : World} {g : Nat} {f0 : Int} {f1 : Int} {f2 : List (S41)} {f3 : List (S28)} {f4 : List (S128)} {f5 : List (S34)} {f6 : Int} {W1 : World} {S : Nat → Prop} (h : IsS69 w0 W g f0 f1 f2 f3 f4 f5 f6) (hk : Kept W W1 S) (hne : ¬ S g) : IsS69 w0 W1 g f0 f1 f2 f3 f4 f5 f6:=by
 obtain ⟨A2,c2,A3,c3,A4,c4,A5,c5,hb,hg,hr2,hr3,hr4,hr5⟩:=h
 exact ⟨A2,c2,A3,c3,A4,c4,A5,c5,blk_kept hb hk hne,hg,hr2,hr3,hr4,hr5⟩
theorem IsS69.below {w0 W : World} {g : Nat} {f0 : Int} {f1 : Int} {f2 : List (S41)} {f3 : List (S28)} {f4 : List (S128)} {f5 : List (S34)} {f6 : Int} {W1 : World} (h : IsS69 w0 W g f0 f1 f2 f3 f4 f5 f6) (hw : Below W.heap.size W W1) : IsS69 w0 W1 g f0 f1 f2 f3 f4 f5 f6:=h.grown (grown_of_below hw none) (by simp)
theorem IsS69.alloc {w0 W : World} {g : Nat} {f0 : Int} {f1 : Int} {f2 : List (S41)} {f3 : List (S28)} {f4 : List (S128)} {f5 : List (S34)} {f6 : Int} (h : IsS69 w0 W g f0 f1 f2 f3 f4 f5 f6) (o : Obj) : IsS69 w0 (W.alloc o) g f0 f1 f2 f3 f4 f5 f6:=h.below (below_alloc (Below.refl _ _) o)
theorem IsS69.drewN {w0 W : World} {g : Nat} {f0 : Int} {f1 : Int} {f2 : List (S41)} {f3 : List (S28)} {f4 : List (S128)} {f5 : List (S34)} {f6 : Int} (h : IsS69 w0 W g f0 f1 f2 f3 f4 f5 f6) (m : Nat) : IsS69 w0 (W.drewN m) g f0 f1 f2 f3 f4 f5 f6:=h
theorem IsS69.drew {w0 W : World} {g : Nat} {f0 : Int} {f1 : Int} {f2 : List (S41)} {f3 : List (S28)} {f4 : List (S128)} {f5 : List (S34)} {f6 : Int} (h : IsS69 w0 W g f0 f1 f2 f3 f4 f5 f6) : IsS69 w0 W.drew g f0 f1 f2 f3 f4 f5 f6:=h
theorem IsS69.at_ {w0 W : World} {g : Nat} {f0 : Int} {f1 : Int} {f2 : List (S41)} {f3 : List (S28)} {f4 : List (S128)} {f5 : List (S34)} {f6 : Int} {w' : World} {m : Nat} (hq : W.drewN m = w') (h : IsS69 w0 W g f0 f1 f2 f3 f4 f5 f6) : IsS69 w0 w' g f0 f1 f2 f3 f4 f5 f6:=by subst hq;exact IsS69.drewN h m
theorem IsS69.apart {w0 W : World} {g : Nat} {f0 : Int} {f1 : Int} {f2 : List (S41)} {f3 : List (S28)} {f4 : List (S128)} {f5 : List (S34)} {f6 : Int} {α : Type} {d : Kd α} {e : Nat} {base : Nat} {ok : Nat → Prop} {v : Value} {xs : List α} (h : IsS69 w0 W g f0 f1 f2 f3 f4 f5 f6) (ho : d.R e W base ok v xs) (ht : ∀ q,q ∈ e :: d.E → q ≠ 69) : d.R e W base (fun k=>ok k ∧ k ≠ g) v xs:=by
 obtain ⟨A2,c2,A3,c3,A4,c4,A5,c5,hb,hg,hr2,hr3,hr4,hr5⟩:=h
 exact Kd.R_types ho hb ht
theorem IsS69.own_ne {w0 W : World} {g : Nat} {f0 : Int} {f1 : Int} {f2 : List (S41)} {f3 : List (S28)} {f4 : List (S128)} {f5 : List (S34)} {f6 : Int} {α : Type} {d : Kd α} {e : Nat} {base : Nat} {ok : Nat → Prop} {v : Value} {xs : List α} (h : IsS69 w0 W g f0 f1 f2 f3 f4 f5 f6) (ho : d.R e W base ok v xs) (ht : e ≠ 69) : some g ≠ v.ownBlock:=by
 obtain ⟨A2,c2,A3,c3,A4,c4,A5,c5,hb,hg,hr2,hr3,hr4,hr5⟩:=h
 exact Kd.R_ne ho hb ht
theorem IsS69.apartQ {w0 W : World} {g : Nat} {f0 : Int} {f1 : Int} {f2 : List (S41)} {f3 : List (S28)} {f4 : List (S128)} {f5 : List (S34)} {f6 : Int} {α : Type} {d : Kd α} {e : Nat} {base : Nat} {ok : Nat → Prop} {v : Value} {xs : List α} (h : IsS69 w0 W g f0 f1 f2 f3 f4 f5 f6) (ho : d.Q e W base ok v xs) (ht : ∀ q,q ∈ e :: d.E → q ≠ 69) : d.Q e W base (fun k=>ok k ∧ k ≠ g) v xs:=by
 obtain ⟨A2,c2,A3,c3,A4,c4,A5,c5,hb,hg,hr2,hr3,hr4,hr5⟩:=h
 exact Kd.Q_types ho hb ht
theorem IsS69.own_neQ {w0 W : World} {g : Nat} {f0 : Int} {f1 : Int} {f2 : List (S41)} {f3 : List (S28)} {f4 : List (S128)} {f5 : List (S34)} {f6 : Int} {α : Type} {d : Kd α} {e : Nat} {base : Nat} {ok : Nat → Prop} {v : Value} {xs : List α} (h : IsS69 w0 W g f0 f1 f2 f3 f4 f5 f6) (ho : d.Q e W base ok v xs) (ht : e ≠ 69) : some g ≠ v.ownBlock:=by
 obtain ⟨A2,c2,A3,c3,A4,c4,A5,c5,hb,hg,hr2,hr3,hr4,hr5⟩:=h
 exact Kd.Q_ne ho hb ht
theorem IsS69.apartS {w0 W : World} {g : Nat} {f0 : Int} {f1 : Int} {f2 : List (S41)} {f3 : List (S28)} {f4 : List (S128)} {f5 : List (S34)} {f6 : Int} {α : Type} {d : Kd α} {e : Nat} {base : Nat} {ok : Nat → Prop} {v : Value} {xs : List α} (h : IsS69 w0 W g f0 f1 f2 f3 f4 f5 f6) (ho : d.S e W base ok v xs) (ht : ∀ q,q ∈ e :: d.E → q ≠ 69) : d.S e W base (fun k=>ok k ∧ k ≠ g) v xs:=by
 obtain ⟨A2,c2,A3,c3,A4,c4,A5,c5,hb,hg,hr2,hr3,hr4,hr5⟩:=h
 exact Kd.S_types ho hb ht
theorem IsS69.own_neS {w0 W : World} {g : Nat} {f0 : Int} {f1 : Int} {f2 : List (S41)} {f3 : List (S28)} {f4 : List (S128)} {f5 : List (S34)} {f6 : Int} {α : Type} {d : Kd α} {e : Nat} {base : Nat} {ok : Nat → Prop} {v : Value} {xs : List α} (h : IsS69 w0 W g f0 f1 f2 f3 f4 f5 f6) (ho : d.S e W base ok v xs) (ht : e ≠ 69) : some g ≠ v.ownBlock:=by
 obtain ⟨A2,c2,A3,c3,A4,c4,A5,c5,hb,hg,hr2,hr3,hr4,hr5⟩:=h
 exact Kd.S_ne ho hb ht
theorem IsS69.lt {w0 W : World} {g : Nat} {f0 : Int} {f1 : Int} {f2 : List (S41)} {f3 : List (S28)} {f4 : List (S128)} {f5 : List (S34)} {f6 : Int} (h : IsS69 w0 W g f0 f1 f2 f3 f4 f5 f6) : g < W.heap.size:=by
 obtain ⟨A2,c2,A3,c3,A4,c4,A5,c5,hb,hg,hr2,hr3,hr4,hr5⟩:=h
 exact blk_lt hb
theorem IsS69.ge {w0 W : World} {g : Nat} {f0 : Int} {f1 : Int} {f2 : List (S41)} {f3 : List (S28)} {f4 : List (S128)} {f5 : List (S34)} {f6 : Int} (h : IsS69 w0 W g f0 f1 f2 f3 f4 f5 f6) : w0.heap.size ≤ g:=by
 obtain ⟨A2,c2,A3,c3,A4,c4,A5,c5,hb,hg,hr2,hr3,hr4,hr5⟩:=h
 exact hg
theorem IsS69.ne_blk {w0 W : World} {g : Nat} {f0 : Int} {f1 : Int} {f2 : List (S41)} {f3 : List (S28)} {f4 : List (S128)} {f5 : List (S34)} {f6 : Int} {a : Nat} {cs : Array Value} {t : TypeId} {fr : Nat × Nat} (h : IsS69 w0 W g f0 f1 f2 f3 f4 f5 f6) (hb2 : W.heap[a]? = some (.cells cs t fr)) (ht : t ≠ 69) : g ≠ a:=by
 obtain ⟨A2,c2,A3,c3,A4,c4,A5,c5,hb,hg,hr2,hr3,hr4,hr5⟩:=h
 rintro rfl
 rw [hb] at hb2
 injection hb2 with hb2
 injection hb2 with _ ht2
 exact ht ht2.symm
theorem IsS69.far {w0 W : World} {g : Nat} {f0 : Int} {f1 : Int} {f2 : List (S41)} {f3 : List (S28)} {f4 : List (S128)} {f5 : List (S34)} {f6 : Int} {p : Addr} (h : IsS69 w0 W g f0 f1 f2 f3 f4 f5 f6) (hne : g ≠ p.block) (u : Value) : IsS69 w0 (W.setCell p u) g f0 f1 f2 f3 f4 f5 f6:=by
 obtain ⟨A2,c2,A3,c3,A4,c4,A5,c5,hb,hg,hr2,hr3,hr4,hr5⟩:=h
 exact ⟨A2,c2,A3,c3,A4,c4,A5,c5,blk_far hb hne u,hg,hr2,hr3,hr4,hr5⟩
theorem cellS69_0 {W : World} {g : Nat} {A2 : Option Addr} {c2 : Nat} {A3 : Option Addr} {c3 : Nat} {A4 : Option Addr} {c4 : Nat} {A5 : Option Addr} {c5 : Nat} {f0 : Int} {f1 : Int} {f2 : List (S41)} {f3 : List (S28)} {f4 : List (S128)} {f5 : List (S34)} {f6 : Int} (h : W.heap[g]? = some (.cells #[.int .i64 f0,.int .i64 f1,.slice A2 f2.length c2,.slice A3 f3.length c3,.slice A4 f4.length c4,.slice A5 f5.length c5,.int .i64 f6] 69 (0,0))) : W.cell? ⟨g,0,none⟩ = some (.int .i64 f0):=(blk_cell h 0).trans rfl
theorem IsS69.set_0 {w0 W : World} {g : Nat} {f0 : Int} {f1 : Int} {f2 : List (S41)} {f3 : List (S28)} {f4 : List (S128)} {f5 : List (S34)} {f6 : Int} (h : IsS69 w0 W g f0 f1 f2 f3 f4 f5 f6) (x : Int) : IsS69 w0 (W.setCell ⟨g,0,none⟩ (.int .i64 x)) g x f1 f2 f3 f4 f5 f6:=by
 obtain ⟨A2,c2,A3,c3,A4,c4,A5,c5,hb,hg,hr2,hr3,hr4,hr5⟩:=h
 exact ⟨A2,c2,A3,c3,A4,c4,A5,c5,by simpa using blk_set hb 0 (.int .i64 x),hg,hr2,hr3,hr4,hr5⟩
theorem cellS69_1 {W : World} {g : Nat} {A2 : Option Addr} {c2 : Nat} {A3 : Option Addr} {c3 : Nat} {A4 : Option Addr} {c4 : Nat} {A5 : Option Addr} {c5 : Nat} {f0 : Int} {f1 : Int} {f2 : List (S41)} {f3 : List (S28)} {f4 : List (S128)} {f5 : List (S34)} {f6 : Int} (h : W.heap[g]? = some (.cells #[.int .i64 f0,.int .i64 f1,.slice A2 f2.length c2,.slice A3 f3.length c3,.slice A4 f4.length c4,.slice A5 f5.length c5,.int .i64 f6] 69 (0,0))) : W.cell? ⟨g,1,none⟩ = some (.int .i64 f1):=(blk_cell h 1).trans rfl
theorem IsS69.set_1 {w0 W : World} {g : Nat} {f0 : Int} {f1 : Int} {f2 : List (S41)} {f3 : List (S28)} {f4 : List (S128)} {f5 : List (S34)} {f6 : Int} (h : IsS69 w0 W g f0 f1 f2 f3 f4 f5 f6) (x : Int) : IsS69 w0 (W.setCell ⟨g,1,none⟩ (.int .i64 x)) g f0 x f2 f3 f4 f5 f6:=by
 obtain ⟨A2,c2,A3,c3,A4,c4,A5,c5,hb,hg,hr2,hr3,hr4,hr5⟩:=h
 exact ⟨A2,c2,A3,c3,A4,c4,A5,c5,by simpa using blk_set hb 1 (.int .i64 x),hg,hr2,hr3,hr4,hr5⟩
theorem cellS69_2 {W : World} {g : Nat} {A2 : Option Addr} {c2 : Nat} {A3 : Option Addr} {c3 : Nat} {A4 : Option Addr} {c4 : Nat} {A5 : Option Addr} {c5 : Nat} {f0 : Int} {f1 : Int} {f2 : List (S41)} {f3 : List (S28)} {f4 : List (S128)} {f5 : List (S34)} {f6 : Int} (h : W.heap[g]? = some (.cells #[.int .i64 f0,.int .i64 f1,.slice A2 f2.length c2,.slice A3 f3.length c3,.slice A4 f4.length c4,.slice A5 f5.length c5,.int .i64 f6] 69 (0,0))) : W.cell? ⟨g,2,none⟩ = some (.slice A2 f2.length c2):=(blk_cell h 2).trans rfl
theorem cellS69_3 {W : World} {g : Nat} {A2 : Option Addr} {c2 : Nat} {A3 : Option Addr} {c3 : Nat} {A4 : Option Addr} {c4 : Nat} {A5 : Option Addr} {c5 : Nat} {f0 : Int} {f1 : Int} {f2 : List (S41)} {f3 : List (S28)} {f4 : List (S128)} {f5 : List (S34)} {f6 : Int} (h : W.heap[g]? = some (.cells #[.int .i64 f0,.int .i64 f1,.slice A2 f2.length c2,.slice A3 f3.length c3,.slice A4 f4.length c4,.slice A5 f5.length c5,.int .i64 f6] 69 (0,0))) : W.cell? ⟨g,3,none⟩ = some (.slice A3 f3.length c3):=(blk_cell h 3).trans rfl
theorem cellS69_4 {W : World} {g : Nat} {A2 : Option Addr} {c2 : Nat} {A3 : Option Addr} {c3 : Nat} {A4 : Option Addr} {c4 : Nat} {A5 : Option Addr} {c5 : Nat} {f0 : Int} {f1 : Int} {f2 : List (S41)} {f3 : List (S28)} {f4 : List (S128)} {f5 : List (S34)} {f6 : Int} (h : W.heap[g]? = some (.cells #[.int .i64 f0,.int .i64 f1,.slice A2 f2.length c2,.slice A3 f3.length c3,.slice A4 f4.length c4,.slice A5 f5.length c5,.int .i64 f6] 69 (0,0))) : W.cell? ⟨g,4,none⟩ = some (.slice A4 f4.length c4):=(blk_cell h 4).trans rfl
theorem cellS69_5 {W : World} {g : Nat} {A2 : Option Addr} {c2 : Nat} {A3 : Option Addr} {c3 : Nat} {A4 : Option Addr} {c4 : Nat} {A5 : Option Addr} {c5 : Nat} {f0 : Int} {f1 : Int} {f2 : List (S41)} {f3 : List (S28)} {f4 : List (S128)} {f5 : List (S34)} {f6 : Int} (h : W.heap[g]? = some (.cells #[.int .i64 f0,.int .i64 f1,.slice A2 f2.length c2,.slice A3 f3.length c3,.slice A4 f4.length c4,.slice A5 f5.length c5,.int .i64 f6] 69 (0,0))) : W.cell? ⟨g,5,none⟩ = some (.slice A5 f5.length c5):=(blk_cell h 5).trans rfl
theorem cellS69_6 {W : World} {g : Nat} {A2 : Option Addr} {c2 : Nat} {A3 : Option Addr} {c3 : Nat} {A4 : Option Addr} {c4 : Nat} {A5 : Option Addr} {c5 : Nat} {f0 : Int} {f1 : Int} {f2 : List (S41)} {f3 : List (S28)} {f4 : List (S128)} {f5 : List (S34)} {f6 : Int} (h : W.heap[g]? = some (.cells #[.int .i64 f0,.int .i64 f1,.slice A2 f2.length c2,.slice A3 f3.length c3,.slice A4 f4.length c4,.slice A5 f5.length c5,.int .i64 f6] 69 (0,0))) : W.cell? ⟨g,6,none⟩ = some (.int .i64 f6):=(blk_cell h 6).trans rfl
theorem IsS69.set_6 {w0 W : World} {g : Nat} {f0 : Int} {f1 : Int} {f2 : List (S41)} {f3 : List (S28)} {f4 : List (S128)} {f5 : List (S34)} {f6 : Int} (h : IsS69 w0 W g f0 f1 f2 f3 f4 f5 f6) (x : Int) : IsS69 w0 (W.setCell ⟨g,6,none⟩ (.int .i64 x)) g f0 f1 f2 f3 f4 f5 x:=by
 obtain ⟨A2,c2,A3,c3,A4,c4,A5,c5,hb,hg,hr2,hr3,hr4,hr5⟩:=h
 exact ⟨A2,c2,A3,c3,A4,c4,A5,c5,by simpa using blk_set hb 6 (.int .i64 x),hg,hr2,hr3,hr4,hr5⟩
theorem IsS69.new (w0 W : World) (A2 : Option Addr) (c2 : Nat) (A3 : Option Addr) (c3 : Nat) (A4 : Option Addr) (c4 : Nat) (A5 : Option Addr) (c5 : Nat) (f0 : Int) (f1 : Int) (f2 : List (S41)) (f3 : List (S28)) (f4 : List (S128)) (f5 : List (S34)) (f6 : Int) (hB : Below w0.heap.size w0 W) (hr2 : Kd.C k41 w0 A2 f2.length f2) (hr3 : Kd.C k28 w0 A3 f3.length f3) (hr4 : Kd.C k128 w0 A4 f4.length f4) (hr5 : Kd.C k34 w0 A5 f5.length f5) : IsS69 w0 (W.alloc (.cells #[.int .i64 f0,.int .i64 f1,.slice A2 f2.length c2,.slice A3 f3.length c3,.slice A4 f4.length c4,.slice A5 f5.length c5,.int .i64 f6] 69)) W.heap.size f0 f1 f2 f3 f4 f5 f6:=⟨A2,c2,A3,c3,A4,c4,A5,c5,by simpa using heap_alloc_new W _,hB.size,hr2,hr3,hr4,hr5⟩

/-! ### impl_World_own: function 105 -/
def impl_World_own.f (qe : Int) (qd : Int) (qj : List (S41)) (qi : List (S28)) (qh : List (S128)) (qg : List (S34)) (qa : Int) : Option (List Int × Int × Int × Int):=if qa = 0 then (some (([] : List Int),qe,qd,qa)) else (some ((([qa] : List Int)),qe,qd,qa))
set_option maxHeartbeats 8000000 in
set_option maxRecDepth 100000 in
theorem impl_World_own.calls (g : Nat) (qe : Int) (qd : Int) (qj : List (S41)) (qi : List (S28)) (qh : List (S128)) (qg : List (S34)) (qa : Int) (r1 : List Int) (r2 : Int) (r3 : Int) (r4 : Int) (w0 w : World) (hI : IsS69 w0 w g qe qd qj qi qh qg qa) (hB : Below w0.heap.size w0 w) (h : impl_World_own.f qe qd qj qi qh qg qa = some (r1,r2,r3,r4)) :
  Calls Try.prog 105 #[.pointer (some ⟨g,0,none⟩)] w fun e w' => ∃ v0_ : Value,e = .returned (v0_) ∧ Kd.R (Kd.int .i64) 3 w' w.heap.size (fun _=>True) v0_ r1 ∧ IsS69 w0 w' g r2 r3 qj qi qh qg r4 ∧ Below w0.heap.size w0 w' ∧ KeepBut w w' g none:=by
 have HI0:=Aside0.mk hI
 have HK:=Aside0.mk (KeepBut.refl w g none)
 have HL:=Aside0.mk hB.size
 clear hI
 have HW0:=Aside0.mk hB.size
 have HB:=Aside0.mk hB
 clear hB
 have H : (if qa = 0 then (some (([] : List Int),qe,qd,qa)) else (some ((([qa] : List Int)),qe,qd,qa))) = some (r1,r2,r3,r4):=h
 clear h
 by_cases c2 : qa = 0
 ·rw [if_pos c2] at H
  have wv : (qa == 0) = true:=beq_iff_eq.mpr c2
  have wu : (qa != 0) = false:=bne_eq_false_iff_eq.mpr c2
  clear c2
  simp only [Option.some.injEq,Prod.mk.injEq] at H
  obtain ⟨rfl,rfl,rfl,rfl⟩:=H
  obtain ⟨vw,wt,vv,ws,vu,wr,vt,wq,qc,qo,vn,vm,vl,vk⟩:=HI0.out
  have wk:=cellS69_0 qc
  have wj:=cellS69_1 qc
  have wi:=cellS69_2 qc
  have wh:=cellS69_3 qc
  have wg:=cellS69_4 qc
  have we:=cellS69_5 qc
  have wd:=cellS69_6 qc
  have qv:=blk_frozen qc 0
  have qu:=blk_frozen qc 1
  have qt:=blk_frozen qc 6
  clear qc qo
  go_enter Try.func105,Try.ntmps105
  go_wp2
  go_ret
  exact ⟨_,by first|rfl|(simp [errW_none,errW_some] <;> rfl)|(simp [*,errW_none,errW_some] <;> rfl),by first|exact Kd.R_nil _ _ _ _ _|exact Kd.N_nil _ _ _ _ _|exact Kd.V_nil _ _ _ _ _|exact Kd.Q_nil _ _ _ _ _|exact Kd.S_nil _ _ _ _ _,by repeat (first|(with_reducible first|exact HI0.out|apply IsS69.alloc|apply IsS69.drewN|apply IsS69.drew|apply IsS69.set_0|apply IsS69.set_1|apply IsS69.set_6)|exact HI0.out),by repeat (first|(with_reducible first|exact HB.out|apply below_alloc|apply pw_below_drewN|apply below_drew1|refine below_set ?_ (IsS69.ge HI0.out))|exact HB.out),by repeat (first|(with_reducible first|exact HK.out|apply KeepBut.set_|apply keep_drewN|apply keep_drew|apply keep_alloc)|exact HK.out)⟩
 ·rw [if_neg c2] at H
  have wv : (qa == 0) = false:=beq_eq_false_iff_ne.mpr c2
  have wu : (qa != 0) = true:=bne_iff_ne.mpr c2
  obtain ⟨qm,qf⟩ : ∃ y_ : List Int,y_ = (([qa] : List Int)):=⟨_,rfl⟩
  replace H : (some (qm,qe,qd,qa)) = some (r1,r2,r3,r4):=by first|(rw [qf];with_reducible exact H)|(have H2_:=(Option.bind_some _ _).symm.trans H;rw [qf];with_reducible exact H2_)|(have H2_:=(Option.bind_some _ _).symm.trans H;with_reducible exact H2_)|with_reducible exact H|(rw [qf];exact H)|exact H
  have qk:=Aside0.mk qf
  clear qf
  simp only [Option.some.injEq,Prod.mk.injEq] at H
  obtain ⟨rfl,rfl,rfl,rfl⟩:=H
  obtain ⟨vr,wo,vq,wn,vp,wm,vo,wl,qb,qn,wz,wy,wx,ww⟩:=HI0.out
  have wc:=cellS69_0 qb
  have wb:=cellS69_1 qb
  have wa:=cellS69_2 qb
  have qz:=cellS69_3 qb
  have qy:=cellS69_4 qb
  have qx:=cellS69_5 qb
  have qw:=cellS69_6 qb
  have qr:=blk_frozen qb 0
  have qq:=blk_frozen qb 1
  have qp:=blk_frozen qb 6
  clear qb qn
  go_enter Try.func105,Try.ntmps105
  go_wp2_with (first|((with_reducible refine gate_dst (N:=12) rfl ?_);refine Kd.R_lit (Kd.int .i64) _ 3 ?hg (N:=12) ?hd (xs:=([qa] : List Int)) (inner:=[.int .i64 qa]) (ok:=fun _=>True) (okp:=fun _=>True) ?hr ?hp (fun _ hk=>hk) trivial (Below.refl _ _) (Nat.le_refl _) (by simp) ?_;(case hd=>rfl);(case hg=>rfl);(case hr=>first|(go_simp;done)|(go_simp;rfl));(case hp=>exact (Reps.one (show Kd.M (Kd.int .i64) _ _ _ qa [.int .i64 qa] from rfl) (Reps.none _ _)));intro vx w5 ho6 hb hg_ hnew_;clear hg_ hnew_;(first|rw [← qk.out] at ho6|(simp only [Int.reduceToNat] at ho6;rw [← qk.out] at ho6));have n0_:=Aside0.mk (Kd.R_lower ho6 (keep_size (w:=w) (g:=g) (row:=none) (by repeat (first|(with_reducible first|exact HK.out|apply KeepBut.set_|apply keep_drewN|apply keep_drew|apply keep_alloc)|exact HK.out))));have n1_:=Aside0.mk (IsS69.below (by repeat (first|(with_reducible first|exact HI0.out|apply IsS69.alloc|apply IsS69.drewN|apply IsS69.drew|apply IsS69.set_0|apply IsS69.set_1|apply IsS69.set_6)|exact HI0.out)) hb);have n2_:=Aside0.mk (KeepBut.trans (by repeat (first|(with_reducible first|exact HK.out|apply KeepBut.set_|apply keep_drewN|apply keep_drew|apply keep_alloc)|exact HK.out)) (KeepBut.of_below hb g none) (.inl rfl));have n3_:=Aside0.mk (below_step (by repeat (first|(with_reducible first|exact HB.out|apply below_alloc|apply pw_below_drewN|apply below_drew1|refine below_set ?_ (IsS69.ge HI0.out))|exact HB.out)) hb);clear HI0;clear HK;clear HB;have ql:=n0_;have HI0:=n1_;have HK:=n2_;have HB:=n3_;clear n0_ n1_ n2_ n3_;clear hb ho6))
  go_ret
  exact ⟨_,by first|rfl|(simp [errW_none,errW_some] <;> rfl)|(simp [*,errW_none,errW_some] <;> rfl),by (with_reducible repeat (first|apply Kd.R_alloc|apply Kd.R_drewN|apply Kd.R_drew));exact ql.out,by repeat (first|(with_reducible first|exact HI0.out|apply IsS69.alloc|apply IsS69.drewN|apply IsS69.drew|apply IsS69.set_0|apply IsS69.set_1|apply IsS69.set_6)|exact HI0.out),by repeat (first|(with_reducible first|exact HB.out|apply below_alloc|apply pw_below_drewN|apply below_drew1|refine below_set ?_ (IsS69.ge HI0.out))|exact HB.out),by repeat (first|(with_reducible first|exact HK.out|apply KeepBut.set_|apply keep_drewN|apply keep_drew|apply keep_alloc)|exact HK.out)⟩

end Go.Proofs.Ytbipicjijbnbbaa.Hp
