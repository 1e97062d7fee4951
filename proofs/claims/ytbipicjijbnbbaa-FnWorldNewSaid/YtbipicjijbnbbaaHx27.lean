-- hp.py
import Derived.Test.YtbipicjijbnbbaaHx0
import Derived.Test.YtbipicjijbnbbaaHx11
import Derived.Test.YtbipicjijbnbbaaHx20
import Derived.Test.YtbipicjijbnbbaaHx21
import Derived.Test.YtbipicjijbnbbaaHx25
import Derived.Test.YtbipicjijbnbbaaHx26
import Derived.Test.YtbipicjijbnbbaaDr0
namespace Go.Proofs.Ytbipicjijbnbbaa.Hp
open Go.RowKit Go.Proofs.YtbipicjijbnbbaaW.PrintWords Go.Proofs.YtbipicjijbnbbaaW.PrintLast Go.Proofs.YtbipicjijbnbbaaW.PrintMore
attribute [local go_sem] max2_int min2_int max_two min_two max_three min_three max_four min_four   -- for this text's walks alone
set_option linter.unusedVariables false
set_option linter.unusedSimpArgs false
-- squeezed by wip/tools/squeeze.py
theorem z27x6 {P : Prop} (h : P:=by first|rfl|((try simp only [List.map_toArray,List.map_cons,List.map_nil]);first|done|rfl)) : P:=h
theorem z27x5 {P : Prop} (h : P:=by (with_reducible repeat (first|refine blk_drewN ?_ _|refine blk_drew ?_|refine blk_alloc ?_ _));exact HG_.out) : P:=h
theorem z27x4 {P : Prop} (h : P:=by repeat (first|(with_reducible first|exact HP.out|apply below_alloc|apply pw_below_drewN|apply below_drew1)|exact HP.out)) : P:=h
theorem z27x3 {P : Prop} (h : P:=by repeat (first|(with_reducible first|exact HL.out|apply below_alloc|apply pw_below_drewN|apply below_drew1)|exact HL.out)) : P:=h
theorem z27x2 {P : Prop} (h : P:=by repeat (first|(with_reducible first|exact HB.out|apply below_alloc|apply pw_below_drewN|apply below_drew1)|exact HB.out)) : P:=h
theorem z27x1 {P : Prop} (h : P:=by repeat (first|(with_reducible first|exact Below.refl _ _|apply below_alloc|apply pw_below_drewN|apply below_drew1)|exact Below.refl _ _)) : P:=h
theorem z27x0 {P : Prop} (h : P:=by repeat (first|(with_reducible first|exact Below.refl wr.heap.size wr|apply below_alloc|apply pw_below_drewN|apply below_drew1)|exact Below.refl wr.heap.size wr)) : P:=h

/-! ### impl_ClientOk: function 17 -/
-- IMPORT Derived.Test.YtbipicjijbnbbaaDr0
theorem blkC {w w1 : World} {g : Nat} {o : Obj} (hb : Below w.heap.size w w1) (h : w.heap[g]? = some o) : w1.heap[g]? = some o:=(hb.block g (blk_lt h)).trans h
/-! when a user is ok -/
def lastW (l : List S104) (x : Int) : Int:=if x = 0 then 0 else (rd_T104 l (x - 1)).f1
def wantOk (num : Int) (l : List S104) (x : Int) : Prop:=rng (rd_T104 l x).f0 4 6 = true ∧ rng (rd_T104 l x).f1 (lastW l x + 1) num = true
def lone (l : List S106) (x : Int) : Prop:=∀ j : Nat,(j : Int) < x → (rd_T106 l j).f0 ≠ (rd_T106 l x).f0
def tickOk (s : S41) : Bool:=sealOk s.f0 s.f1 s.f2 s.f3 s.f4 s.f5 s.f6
def credOk (l : List S106) (x : Int) : Prop:=rng (rd_T106 l x).f0 4 6 = true ∧ lone l x ∧ rng (rd_T106 l x).f1 10 60 = true ∧ rng (rd_T106 l x).f2 0 100 = true ∧ tickOk (rd_T106 l x).f3 = true
def lastS (l : List S113) (x : Int) : Int:=if x = 0 then 0 else (rd_T113 l (x - 1)).f3
def sentOk (num : Int) (l : List S113) (x : Int) : Prop:=rng (rd_T113 l x).f0 4 5 = true ∧ rng (rd_T113 l x).f1 10 60 = true ∧ rng (rd_T113 l x).f2 0 100 = true ∧ rng (rd_T113 l x).f3 (lastS l x + 1) num = true
def metOk (s m : List S113) (x : Int) : Prop:=rd_T113 m x ∈ s ∧ rd_T113 m x ∉ m.take x.toNat
def ClientP (id num : Int) (W : List S104) (C : List S106) (S M : List S113) : Prop :=
  rng id 1 3 = true ∧ rng num 0 60 = true ∧ (∀ j : Nat,(j : Int) < W.length → wantOk num W j) ∧ (∀ j : Nat,(j : Int) < C.length → credOk C j) ∧ (∀ j : Nat,(j : Int) < S.length → sentOk num S j) ∧ (∀ j : Nat,(j : Int) < M.length → metOk S M j)
noncomputable def clientB (id num : Int) (W : List S104) (C : List S106) (S M : List S113) : Bool:=@decide (ClientP id num W C S M) (Classical.propDecidable _)
theorem clientB_no {id num : Int} {W : List S104} {C : List S106} {S M : List S113} (h : ¬ ClientP id num W C S M) : false = clientB id num W C S M:=(@decide_eq_false _ (Classical.propDecidable _) h).symm
theorem clientB_yes {id num : Int} {W : List S104} {C : List S106} {S M : List S113} (h : ClientP id num W C S M) : true = clientB id num W C S M:=(@decide_eq_true _ (Classical.propDecidable _) h).symm
theorem upto {P : Nat → Prop} {x : Int} (h0 : 0 ≤ x) (h : ∀ j : Nat,(j : Int) < x → P j) (hx : P x.toNat) : ∀ j : Nat,(j : Int) < x + 1 → P j:=fun j hj=>by
  by_cases hj' : (j : Int) < x
  · exact h j hj'
  · obtain rfl : j = x.toNat:=by omega
    exact hx
/-! which ticket is for a service -/
def credFirst (l : List S106) (s r : Int) : Prop:=(r = -1 ∧ ∀ j : Nat,(j : Int) < l.length → (rd_T106 l j).f0 ≠ s) ∨ (0 ≤ r ∧ r < l.length ∧ (∀ j : Nat,(j : Int) < r → (rd_T106 l j).f0 ≠ s) ∧ (rd_T106 l r).f0 = s)
theorem credFirst_lone {l : List S106} {x r : Int} (h0 : 0 ≤ x) (h1 : x < l.length) (h : credFirst l (rd_T106 l x).f0 r) : r = x ↔ lone l x:=by
  have hx : ((x.toNat : Nat) : Int) = x:=Int.toNat_of_nonneg h0
  rcases h with ⟨_,h⟩|⟨h2,h3,h4,h5⟩
  · exact absurd rfl (by have:=h x.toNat (by omega);rwa [hx] at this)
  · constructor
    · rintro rfl
      exact h4
    · intro hl
      have hr : ((r.toNat : Nat) : Int) = r:=Int.toNat_of_nonneg h2
      rcases Int.lt_trichotomy r x with h6|h6|h6
      · exact absurd (by rw [hr];exact h5) (hl r.toNat (by omega))
      · exact h6
      · exact absurd rfl (by have:=h4 x.toNat (by omega);rwa [hx] at this)
set_option maxHeartbeats 4000000 in
theorem credTest.calls (x : S106) (B : Nat) (s : Int) (w : World) (hB : w.heap[B]? = some (.cells #[.int .i64 s] 3 (0,0))) :
    Calls Try.prog 138 #[.agg #[.int .i64 x.f0,.int .i64 x.f1,.int .i64 x.f2,.int .i64 x.f3.f0,.int .i64 x.f3.f1,.int .i64 x.f3.f2,.int .i64 x.f3.f3,.int .i64 x.f3.f4,.int .i64 x.f3.f5,.int .i64 x.f3.f6],.pointer (some ⟨B,0,none⟩)] w fun e w' => e = .returned (.bool (x.f0 == s)) ∧ Below w.heap.size w w':=by
  have hlt : B < w.heap.size:=blk_lt hB
  have hc : ∀ o : Obj,(w.alloc o).cell? ⟨B,0,none⟩ = some (.int .i64 s):=fun o=>(blk_cell (blk_alloc hB _) 0).trans rfl
  have hc1 : w.cell? ⟨B,0,none⟩ = some (.int .i64 s):=(blk_cell hB 0).trans rfl
  clear hB
  go_enter Try.func138,Try.ntmps138
  go_wp2_with fail
  go_ret
  exact ⟨by first|rfl|simp,z27x1⟩
set_option maxHeartbeats 8000000 in
set_option maxRecDepth 100000 in
theorem credIndex.calls (A0 : Option Addr) (c0 : Nat) (l0 : List S106) (B : Nat) (s : Int) (w : World) (hr0 : Kd.C k106 w A0 l0.length l0) (hB : w.heap[B]? = some (.cells #[.int .i64 s] 3 (0,0))) :
    Calls Try.prog 137 #[.slice A0 l0.length c0,.func (Fn.func 138) #[] #[.pointer (some ⟨B,0,none⟩)]] w fun e w' => (∃ r : Int,credFirst l0 s r ∧ e = .returned (.int .i64 r)) ∧ Below w.heap.size w w':=by
  have hlen:=hr0.2.1
  have HL:=Aside0.mk hlen
  have HR0:=Aside0.mk hr0
  have HF:=Aside0.mk hB
  clear hr0 hB hlen
  go_enter Try.func137,Try.ntmps137
  go_wp2_with fail
  go_loopg [8] l0.length (fun kq v8 w' => ∃ (x8 : Int),v8 = .int .i64 x8 ∧ Aside0 (0 ≤ x8 ∧ x8 + kq = l0.length) ∧ Aside0 (∀ j : Nat,(j : Int) < x8 → (rd_T106 l0 j).f0 ≠ s) ∧ Aside0 (Below w.heap.size w w'))
  case atStart=>exact ⟨0,by first|rfl|(simp;done)|(simp [*];done),⟨by omega⟩,⟨fun j hj=>by omega⟩,⟨by first|exact Below.refl _ _|exact below_drew (Below.refl _ _)⟩⟩
  case round =>
    obtain ⟨x8,rfl,HX,HN,HB⟩:=hrel
    by_cases hlt : x8 < (l0.length : Int)
    rotate_left
    · have d1 : decide (x8 < (l0.length : Int)) = false:=decide_eq_false hlt
      go_wp2_with fail
      go_ret
      exact ⟨⟨-1,.inl ⟨rfl,fun j hj=>HN.out j (by have:=HX.out;omega)⟩,rfl⟩,HB.out⟩
    have d1 : decide (x8 < (l0.length : Int)) = true:=decide_eq_true hlt
    have p0 : 0 ≤ x8:=HX.out.1
    obtain ⟨ad,e0,hx0,hx1,hx2,hx3,hx4,hx5,hx6,hx7,hx8,hx9⟩:=at_T106 (Kd.C_below HR0.out HB.out) x8 p0 hlt
    cases e0
    have hw1 : x8 + 1 ≤ 9223372036854775807:=by have:=HL.out;omega
    have HC:=Aside0.mk (credTest.calls (rd_T106 l0 x8) B s wr (blkC HB.out HF.out))
    cases hb : ((rd_T106 l0 x8).f0 == s)
    all_goals
      have HS:=Aside0.mk hb
      clear hb
      go_wp2_with (first|(go_at_call 138;refine HC.out.mono ?_;rintro e w1 ⟨rfl,hb1⟩; rw [HS.out]))
    · go_roundg (gk - 1)
      case measure=>have:=HX.out.2;omega
      case rel =>
        refine ⟨x8 + 1,by first|rfl|(simp;done)|(simp [*];done),⟨by have:=HX.out;omega⟩,⟨upto p0 HN.out ?_⟩,⟨below_then HB.out HB.out.size hb1⟩⟩
        rw [Int.toNat_of_nonneg p0]
        exact beq_eq_false_iff_ne.1 HS.out
    · go_ret
      exact ⟨⟨_,.inr ⟨p0,hlt,HN.out,beq_iff_eq.1 HS.out⟩,rfl⟩,below_then HB.out HB.out.size hb1⟩
set_option maxHeartbeats 4000000 in
theorem cred.calls (g : Nat) (v0 v1 v2 v4 v5 : Value) (A0 : Option Addr) (c0 : Nat) (l0 : List S106) (s : Int) (w : World) (hK : w.heap[g]? = some (.cells #[v0,v1,v2,.slice A0 l0.length c0,v4,v5] 28 (0,0))) (hr0 : Kd.C k106 w A0 l0.length l0) :
    Calls Try.prog 74 #[.pointer (some ⟨g,0,none⟩),.int .i64 s] w fun e w' => (∃ r : Int,credFirst l0 s r ∧ e = .returned (.int .i64 r)) ∧ Below w.heap.size w w':=by
  have HK:=Aside0.mk hK
  have HR:=Aside0.mk hr0
  have HB:=Aside0.mk (Below.refl w.heap.size w)
  clear hK hr0
  go_enter Try.func74,Try.ntmps74
  go_wp2_with (first|((with_reducible refine gate_dst (N:=3) rfl ?_);refine box_event ?hg (N:=3) ?hd (cs:=#[.int .i64 s]) (t:=3) ?hr ?_;(case hd=>rfl);(case hg=>rfl);(case hr=>first|(go_simp;done)|(go_simp;rfl));intro g3 hg_ w1 hbox_ hb_;have HK3:=Aside0.mk hbox_;have mm_:=Aside0.mk (below_step z27x2 hb_);have mk_:=Aside0.mk (blkC hb_ HK.out);clear HB HK;have HB:=mm_;have HK:=mk_;clear mm_ mk_ hb_ hbox_ hg_;have hc0 : w1.cell? ⟨g,0,none⟩ = some (v0):=(blk_cell HK.out 0).trans rfl;have hc1 : w1.cell? ⟨g,1,none⟩ = some (v1):=(blk_cell HK.out 1).trans rfl;have hc2 : w1.cell? ⟨g,2,none⟩ = some (v2):=(blk_cell HK.out 2).trans rfl;have hc3 : w1.cell? ⟨g,3,none⟩ = some (.slice A0 l0.length c0):=(blk_cell HK.out 3).trans rfl;have hc4 : w1.cell? ⟨g,4,none⟩ = some (v4):=(blk_cell HK.out 4).trans rfl;have hc5 : w1.cell? ⟨g,5,none⟩ = some (v5):=(blk_cell HK.out 5).trans rfl)|(go_at_call 137;refine (credIndex.calls A0 c0 l0 g3 s _ (Kd.C_below HR.out z27x2) (by (with_reducible repeat (first|refine blk_drewN ?_ _|refine blk_drew ?_|refine blk_alloc ?_ _));exact HK3.out)).mono ?_;rintro e w2 ⟨⟨r,hr_,rfl⟩,hb_⟩; have HC:=Aside0.mk hr_;have HB2:=Aside0.mk (below_step z27x2 hb_);clear hr_ hb_))
  go_ret
  exact ⟨⟨_,HC.out,rfl⟩,HB2.out⟩

def sameC (x y : S113) : Bool:=x.f0 == y.f0 && (x.f1 == y.f1 && (x.f2 == y.f2 && (x.f3 == y.f3)))
theorem sameC_iff {x y : S113} : sameC x y = true ↔ x = y:=by
  constructor
  · intro h
    obtain ⟨a0,a1,a2,a3⟩:=x
    obtain ⟨b0,b1,b2,b3⟩:=y
    simp only [sameC,Bool.and_eq_true,beq_iff_eq] at h
    obtain ⟨rfl,rfl,rfl,rfl⟩:=h
    rfl
  · rintro rfl
    simp [sameC]
theorem rdC_is (l : List S113) (i : Nat) (h : i < l.length) : rd_T113 l (i : Int) = l[i]:=by simp [rd_T113,List.getD_eq_getElem?_getD,List.getElem?_eq_getElem h]
theorem callIndex_loop (l : List S113) (s : S113) (hl : l.length ≤ 9223372036854775807) : ∀ d i : Nat,i + d = l.length →
    Go.Proofs.Ytbipicjijbnbbaa.Dr.Evs (fun k=>impl_Call_139.l0 k l (l.length : Int) (i : Int) s.f0 s.f1 s.f2 s.f3) (fun r=>0 ≤ r ↔ s ∈ l.drop i):=by
  intro d
  induction d with
  | zero =>
    intro i hi
    refine Go.Proofs.Ytbipicjijbnbbaa.Dr.Evs.step (fun k=>by simp only [impl_Call_139.l0];rfl) (Go.Proofs.Ytbipicjijbnbbaa.Dr.Evs.else_ (by omega) (Go.Proofs.Ytbipicjijbnbbaa.Dr.Evs.now ?_))
    rw [List.drop_of_length_le (by omega)];simp
  | succ d ih =>
    intro i hi
    have hlt : i < l.length:=by omega
    refine Go.Proofs.Ytbipicjijbnbbaa.Dr.Evs.step (fun k=>by simp only [impl_Call_139.l0];rfl) (Go.Proofs.Ytbipicjijbnbbaa.Dr.Evs.then_ (by omega) (Go.Proofs.Ytbipicjijbnbbaa.Dr.Evs.then_ (by omega) (Go.Proofs.Ytbipicjijbnbbaa.Dr.Evs.then_ (by omega) ?_)))
    rw [Go.Proofs.Ytbipicjijbnbbaa.Dr.w64 (by omega) (by omega),show (i : Int) + 1 = ((i + 1 : Nat) : Int) from rfl,rdC_is l i hlt,List.drop_eq_getElem_cons hlt]
    refine Go.Proofs.Ytbipicjijbnbbaa.Dr.Evs.ite (fun h=>Go.Proofs.Ytbipicjijbnbbaa.Dr.Evs.now ?_) (fun h=>(ih (i + 1) (by omega)).imp fun r hr=>?_)
    · have e : s = l[i]:=sameC_iff.1 h
      rw [← e];simp
    · have e : ¬ s = l[i]:=fun e=>h (sameC_iff.2 e)
      rw [hr,List.mem_cons]
      exact ⟨.inr,fun h' => h'.resolve_left e⟩
theorem callIn (l : List S113) (s : S113) (hl : l.length ≤ 9223372036854775807) : ∃ k r,impl_Call_77.f k l s.f0 s.f1 s.f2 s.f3 = some r ∧ (r = true ↔ s ∈ l):=by
  obtain ⟨r,hr,hp⟩ : Go.Proofs.Ytbipicjijbnbbaa.Dr.Evs (fun k=>impl_Call_77.f k l s.f0 s.f1 s.f2 s.f3) (fun r=>r = true ↔ s ∈ l):=by
    unfold impl_Call_77.f impl_Call_139.f
    refine (callIndex_loop l s hl l.length 0 (by omega)).bind fun r hr=>Go.Proofs.Ytbipicjijbnbbaa.Dr.Evs.now ?_
    rw [decide_eq_true_eq]
    exact hr
  obtain ⟨k,hk⟩:=hr.rounds
  exact ⟨k,r,hk,hp⟩
theorem callIs (A0 : Option Addr) (c0 : Nat) (l0 : List S113) (s : S113) (r : Bool) (w : World) (hr0 : Kd.C k113 w A0 l0.length l0) (hc0 : l0.length ≤ c0) (h : r = true ↔ s ∈ l0) :
    Calls Try.prog 77 #[.slice A0 l0.length c0,.agg #[.int .i64 s.f0,.int .i64 s.f1,.int .i64 s.f2,.int .i64 s.f3]] w fun e w' => e = .returned (.bool r) ∧ Below w.heap.size w w':=by
  obtain ⟨k,r',hk,hp⟩:=callIn l0 s hr0.2.1
  obtain rfl : r = r':=Bool.eq_iff_iff.2 (h.trans hp.symm)
  exact (impl_Call_77.calls k A0 c0 l0 s.f0 s.f1 s.f2 s.f3 r w hr0 hc0 hk).mono (fun e w' q=>⟨q.1,by first|exact q.2|exact q.2.below⟩)
theorem wantBoxPut {w : World} {g : Nat} {T : TypeId} {a0 a1 : Value} (h : w.heap[g]? = some (.cells #[a0,a1] T (0,0))) (b0 b1 : Value) : ((w.setCell ⟨g,0,none⟩ b0).setCell ⟨g,1,none⟩ b1).heap[g]? = some (.cells #[b0,b1] T (0,0)):=blk_put (cs':=#[b0,b1]) (blk_put (cs':=#[b0,a1]) h 0 b0 rfl) 1 b1 rfl
theorem wantBoxB {w0 w : World} {g : Nat} (h : Below w0.heap.size w0 w) (hg : w0.heap.size ≤ g) (b0 b1 : Value) : Below w0.heap.size w0 ((w.setCell ⟨g,0,none⟩ b0).setCell ⟨g,1,none⟩ b1):=below_set (below_set h hg) hg
theorem credBoxPut {w : World} {g : Nat} {T : TypeId} {a0 a1 a2 a3 a4 a5 a6 a7 a8 a9 : Value} (h : w.heap[g]? = some (.cells #[a0,a1,a2,a3,a4,a5,a6,a7,a8,a9] T (0,0))) (b0 b1 b2 b3 b4 b5 b6 b7 b8 b9 : Value) : ((((((((((w.setCell ⟨g,0,none⟩ b0).setCell ⟨g,1,none⟩ b1).setCell ⟨g,2,none⟩ b2).setCell ⟨g,3,none⟩ b3).setCell ⟨g,4,none⟩ b4).setCell ⟨g,5,none⟩ b5).setCell ⟨g,6,none⟩ b6).setCell ⟨g,7,none⟩ b7).setCell ⟨g,8,none⟩ b8).setCell ⟨g,9,none⟩ b9).heap[g]? = some (.cells #[b0,b1,b2,b3,b4,b5,b6,b7,b8,b9] T (0,0)):=blk_put (cs':=#[b0,b1,b2,b3,b4,b5,b6,b7,b8,b9]) (blk_put (cs':=#[b0,b1,b2,b3,b4,b5,b6,b7,b8,a9]) (blk_put (cs':=#[b0,b1,b2,b3,b4,b5,b6,b7,a8,a9]) (blk_put (cs':=#[b0,b1,b2,b3,b4,b5,b6,a7,a8,a9]) (blk_put (cs':=#[b0,b1,b2,b3,b4,b5,a6,a7,a8,a9]) (blk_put (cs':=#[b0,b1,b2,b3,b4,a5,a6,a7,a8,a9]) (blk_put (cs':=#[b0,b1,b2,b3,a4,a5,a6,a7,a8,a9]) (blk_put (cs':=#[b0,b1,b2,a3,a4,a5,a6,a7,a8,a9]) (blk_put (cs':=#[b0,b1,a2,a3,a4,a5,a6,a7,a8,a9]) (blk_put (cs':=#[b0,a1,a2,a3,a4,a5,a6,a7,a8,a9]) h 0 b0 rfl) 1 b1 rfl) 2 b2 rfl) 3 b3 rfl) 4 b4 rfl) 5 b5 rfl) 6 b6 rfl) 7 b7 rfl) 8 b8 rfl) 9 b9 rfl
theorem credBoxB {w0 w : World} {g : Nat} (h : Below w0.heap.size w0 w) (hg : w0.heap.size ≤ g) (b0 b1 b2 b3 b4 b5 b6 b7 b8 b9 : Value) : Below w0.heap.size w0 ((((((((((w.setCell ⟨g,0,none⟩ b0).setCell ⟨g,1,none⟩ b1).setCell ⟨g,2,none⟩ b2).setCell ⟨g,3,none⟩ b3).setCell ⟨g,4,none⟩ b4).setCell ⟨g,5,none⟩ b5).setCell ⟨g,6,none⟩ b6).setCell ⟨g,7,none⟩ b7).setCell ⟨g,8,none⟩ b8).setCell ⟨g,9,none⟩ b9):=below_set (below_set (below_set (below_set (below_set (below_set (below_set (below_set (below_set (below_set h hg) hg) hg) hg) hg) hg) hg) hg) hg) hg
theorem callBoxPut {w : World} {g : Nat} {T : TypeId} {a0 a1 a2 a3 : Value} (h : w.heap[g]? = some (.cells #[a0,a1,a2,a3] T (0,0))) (b0 b1 b2 b3 : Value) : ((((w.setCell ⟨g,0,none⟩ b0).setCell ⟨g,1,none⟩ b1).setCell ⟨g,2,none⟩ b2).setCell ⟨g,3,none⟩ b3).heap[g]? = some (.cells #[b0,b1,b2,b3] T (0,0)):=blk_put (cs':=#[b0,b1,b2,b3]) (blk_put (cs':=#[b0,b1,b2,a3]) (blk_put (cs':=#[b0,b1,a2,a3]) (blk_put (cs':=#[b0,a1,a2,a3]) h 0 b0 rfl) 1 b1 rfl) 2 b2 rfl) 3 b3 rfl
theorem callBoxB {w0 w : World} {g : Nat} (h : Below w0.heap.size w0 w) (hg : w0.heap.size ≤ g) (b0 b1 b2 b3 : Value) : Below w0.heap.size w0 ((((w.setCell ⟨g,0,none⟩ b0).setCell ⟨g,1,none⟩ b1).setCell ⟨g,2,none⟩ b2).setCell ⟨g,3,none⟩ b3):=below_set (below_set (below_set (below_set h hg) hg) hg) hg
theorem pathW {num : Int} {l : List S104} {x : Int} (h : ¬ wantOk num l x) : rng (rd_T104 l x).f0 4 6 = false ∨ (rng (rd_T104 l x).f0 4 6 = true ∧ rng (rd_T104 l x).f1 (lastW l x + 1) num = false):=by
  unfold wantOk at h
  cases h1 : rng (rd_T104 l x).f0 4 6
  · exact .inl rfl
  · cases h2 : rng (rd_T104 l x).f1 (lastW l x + 1) num
    · exact .inr ⟨rfl,rfl⟩
    · exact absurd ⟨h1,h2⟩ h
theorem pathC {l : List S106} {x : Int} (h : ¬ credOk l x) : rng (rd_T106 l x).f0 4 6 = false ∨ (rng (rd_T106 l x).f0 4 6 = true ∧ ¬ lone l x) ∨ (rng (rd_T106 l x).f0 4 6 = true ∧ lone l x ∧ rng (rd_T106 l x).f1 10 60 = false) ∨ (rng (rd_T106 l x).f0 4 6 = true ∧ lone l x ∧ rng (rd_T106 l x).f1 10 60 = true ∧ rng (rd_T106 l x).f2 0 100 = false) ∨ (rng (rd_T106 l x).f0 4 6 = true ∧ lone l x ∧ rng (rd_T106 l x).f1 10 60 = true ∧ rng (rd_T106 l x).f2 0 100 = true ∧ tickOk (rd_T106 l x).f3 = false):=by
  unfold credOk at h
  cases h1 : rng (rd_T106 l x).f0 4 6
  · exact .inl rfl
  by_cases h2 : lone l x
  case neg=>exact .inr (.inl ⟨rfl,h2⟩)
  cases h3 : rng (rd_T106 l x).f1 10 60
  · exact .inr (.inr (.inl ⟨rfl,h2,rfl⟩))
  cases h4 : rng (rd_T106 l x).f2 0 100
  · exact .inr (.inr (.inr (.inl ⟨rfl,h2,rfl,rfl⟩)))
  cases h5 : tickOk (rd_T106 l x).f3
  · exact .inr (.inr (.inr (.inr ⟨rfl,h2,rfl,rfl,rfl⟩)))
  · exact absurd ⟨h1,h2,h3,h4,h5⟩ h
theorem pathS {num : Int} {l : List S113} {x : Int} (h : ¬ sentOk num l x) : rng (rd_T113 l x).f0 4 5 = false ∨ (rng (rd_T113 l x).f0 4 5 = true ∧ rng (rd_T113 l x).f1 10 60 = false) ∨ (rng (rd_T113 l x).f0 4 5 = true ∧ rng (rd_T113 l x).f1 10 60 = true ∧ rng (rd_T113 l x).f2 0 100 = false) ∨ (rng (rd_T113 l x).f0 4 5 = true ∧ rng (rd_T113 l x).f1 10 60 = true ∧ rng (rd_T113 l x).f2 0 100 = true ∧ rng (rd_T113 l x).f3 (lastS l x + 1) num = false):=by
  unfold sentOk at h
  cases h1 : rng (rd_T113 l x).f0 4 5
  · exact .inl rfl
  cases h2 : rng (rd_T113 l x).f1 10 60
  · exact .inr (.inl ⟨rfl,rfl⟩)
  cases h3 : rng (rd_T113 l x).f2 0 100
  · exact .inr (.inr (.inl ⟨rfl,rfl,rfl⟩))
  cases h4 : rng (rd_T113 l x).f3 (lastS l x + 1) num
  · exact .inr (.inr (.inr ⟨rfl,rfl,rfl,rfl⟩))
  · exact absurd ⟨h1,h2,h3,h4⟩ h
theorem pathM {s m : List S113} {x : Int} (h : ¬ metOk s m x) : rd_T113 m x ∉ s ∨ (rd_T113 m x ∈ s ∧ rd_T113 m x ∈ m.take x.toNat):=by
  unfold metOk at h
  by_cases h1 : rd_T113 m x ∈ s
  rotate_left
  · exact .inl h1
  by_cases h2 : rd_T113 m x ∈ m.take x.toNat
  · exact .inr ⟨h1,h2⟩
  · exact absurd ⟨h1,h2⟩ h
theorem credYes.calls (g : Nat) (v0 v1 v2 v4 v5 : Value) (A0 : Option Addr) (c0 : Nat) (l0 : List S106) (x : Int) (w : World) (h0 : 0 ≤ x) (h1 : x < l0.length) (hl : lone l0 x) (hK : w.heap[g]? = some (.cells #[v0,v1,v2,.slice A0 l0.length c0,v4,v5] 28 (0,0))) (hr0 : Kd.C k106 w A0 l0.length l0) :
    Calls Try.prog 74 #[.pointer (some ⟨g,0,none⟩),.int .i64 (rd_T106 l0 x).f0] w fun e w' => e = .returned (.int .i64 x) ∧ Below w.heap.size w w' :=
  (cred.calls g v0 v1 v2 v4 v5 A0 c0 l0 _ w hK hr0).mono (fun e w' q=>by obtain ⟨⟨r,hr,rfl⟩,hb⟩:=q;rw [(credFirst_lone h0 h1 hr).2 hl];exact ⟨rfl,hb⟩)
theorem credNo.calls (g : Nat) (v0 v1 v2 v4 v5 : Value) (A0 : Option Addr) (c0 : Nat) (l0 : List S106) (x : Int) (w : World) (h0 : 0 ≤ x) (h1 : x < l0.length) (hl : ¬ lone l0 x) (hK : w.heap[g]? = some (.cells #[v0,v1,v2,.slice A0 l0.length c0,v4,v5] 28 (0,0))) (hr0 : Kd.C k106 w A0 l0.length l0) :
    Calls Try.prog 74 #[.pointer (some ⟨g,0,none⟩),.int .i64 (rd_T106 l0 x).f0] w fun e w' => (∃ r : Int,r ≠ x ∧ e = .returned (.int .i64 r)) ∧ Below w.heap.size w w' :=
  (cred.calls g v0 v1 v2 v4 v5 A0 c0 l0 _ w hK hr0).mono (fun e w' q=>by obtain ⟨⟨r,hr,rfl⟩,hb⟩:=q;exact ⟨⟨r,fun e=>hl ((credFirst_lone h0 h1 hr).1 e),rfl⟩,hb⟩)
noncomputable def impl_ClientOk.f (id num : Int) (W : List S104) (C : List S106) (S M : List S113) : Option Bool:=some (clientB id num W C S M)
set_option maxHeartbeats 16000000 in
set_option maxRecDepth 100000 in
theorem impl_ClientOk.calls (id num : Int) (A2 : Option Addr) (c2 : Nat) (W : List S104) (A3 : Option Addr) (c3 : Nat) (C : List S106) (A4 : Option Addr) (c4 : Nat) (S : List S113) (A5 : Option Addr) (c5 : Nat) (M : List S113) (r : Bool) (w : World) (hr2 : Kd.C k104 w A2 W.length W) (hc2 : W.length ≤ c2) (hr3 : Kd.C k106 w A3 C.length C) (hc3 : C.length ≤ c3) (hr4 : Kd.C k113 w A4 S.length S) (hc4 : S.length ≤ c4) (hr5 : Kd.C k113 w A5 M.length M) (hc5 : M.length ≤ c5) (h : impl_ClientOk.f id num W C S M = some r) :
    Calls Try.prog 17 #[.agg #[.int .i64 id,.int .i64 num,.slice A2 W.length c2,.slice A3 C.length c3,.slice A4 S.length c4,.slice A5 M.length c5]] w fun e w' => e = .returned (.bool r) ∧ Below w.heap.size w w':=by
  obtain rfl : clientB id num W C S M = r:=Option.some.inj h
  clear h
  have HR2:=Aside0.mk (And.intro hr2 hc2)
  have HR3:=Aside0.mk (And.intro hr3 hc3)
  have HR4:=Aside0.mk (And.intro hr4 hc4)
  have HR5:=Aside0.mk (And.intro hr5 hc5)
  have HB:=Aside0.mk (Below.refl w.heap.size w)
  clear hr2 hc2 hr3 hc3 hr4 hc4 hr5 hc5
  by_cases h1 : rng id 1 3 = true
  case neg =>
    rw [Bool.not_eq_true] at h1
    go_enter Try.func17,Try.ntmps17
    go_wp2_with (first|((with_reducible refine gate_dst (N:=1) rfl ?_);refine box_event ?hg (N:=1) ?hd (cs:=#[.int .i64 id,.int .i64 num,.slice A2 W.length c2,.slice A3 C.length c3,.slice A4 S.length c4,.slice A5 M.length c5]) (t:=28) ?hr ?_;(case hd=>rfl);(case hg=>rfl);(case hr=>first|(go_simp;done)|(go_simp;rfl));intro g1 hg_ w1 hbox_ hb_;have HK:=Aside0.mk hbox_;have mm_:=Aside0.mk (below_step z27x2 hb_);clear HB;have HB:=mm_;clear mm_;have hk0 : w1.cell? ⟨g1,0,none⟩ = some (.int .i64 id):=(blk_cell HK.out 0).trans rfl;have hk1 : w1.cell? ⟨g1,1,none⟩ = some (.int .i64 num):=(blk_cell HK.out 1).trans rfl;have hk2 : w1.cell? ⟨g1,2,none⟩ = some (.slice A2 W.length c2):=(blk_cell HK.out 2).trans rfl;have hk3 : w1.cell? ⟨g1,3,none⟩ = some (.slice A3 C.length c3):=(blk_cell HK.out 3).trans rfl;have hk4 : w1.cell? ⟨g1,4,none⟩ = some (.slice A4 S.length c4):=(blk_cell HK.out 4).trans rfl;have hk5 : w1.cell? ⟨g1,5,none⟩ = some (.slice A5 M.length c5):=(blk_cell HK.out 5).trans rfl;clear hb_ hbox_ hg_)|(go_at_call 66;refine (impl_userOk.calls _ _ _ (userOk_rng _)).mono ?_;rintro e w_ ⟨rfl,⟨nd_,rfl⟩⟩)|(go_at_call 72;refine (impl_within.calls _ _ _ _ _ (within_rng _ _ _)).mono ?_;rintro e w_ ⟨rfl,⟨nd_,rfl⟩⟩))
    go_ret
    exact ⟨congrArg _ (congrArg _ (clientB_no (fun q=>by rw [q.1] at h1;cases h1))),z27x2⟩
  by_cases h2 : rng num 0 60 = true
  case neg =>
    rw [Bool.not_eq_true] at h2
    go_enter Try.func17,Try.ntmps17
    go_wp2_with (first|((with_reducible refine gate_dst (N:=1) rfl ?_);refine box_event ?hg (N:=1) ?hd (cs:=#[.int .i64 id,.int .i64 num,.slice A2 W.length c2,.slice A3 C.length c3,.slice A4 S.length c4,.slice A5 M.length c5]) (t:=28) ?hr ?_;(case hd=>rfl);(case hg=>rfl);(case hr=>first|(go_simp;done)|(go_simp;rfl));intro g1 hg_ w1 hbox_ hb_;have HK:=Aside0.mk hbox_;have mm_:=Aside0.mk (below_step z27x2 hb_);clear HB;have HB:=mm_;clear mm_;have hk0 : w1.cell? ⟨g1,0,none⟩ = some (.int .i64 id):=(blk_cell HK.out 0).trans rfl;have hk1 : w1.cell? ⟨g1,1,none⟩ = some (.int .i64 num):=(blk_cell HK.out 1).trans rfl;have hk2 : w1.cell? ⟨g1,2,none⟩ = some (.slice A2 W.length c2):=(blk_cell HK.out 2).trans rfl;have hk3 : w1.cell? ⟨g1,3,none⟩ = some (.slice A3 C.length c3):=(blk_cell HK.out 3).trans rfl;have hk4 : w1.cell? ⟨g1,4,none⟩ = some (.slice A4 S.length c4):=(blk_cell HK.out 4).trans rfl;have hk5 : w1.cell? ⟨g1,5,none⟩ = some (.slice A5 M.length c5):=(blk_cell HK.out 5).trans rfl;clear hb_ hbox_ hg_)|(go_at_call 66;refine (impl_userOk.calls _ _ _ (userOk_rng _)).mono ?_;rintro e w_ ⟨rfl,⟨nd_,rfl⟩⟩)|(go_at_call 72;refine (impl_within.calls _ _ _ _ _ (within_rng _ _ _)).mono ?_;rintro e w_ ⟨rfl,⟨nd_,rfl⟩⟩))
    go_ret
    exact ⟨congrArg _ (congrArg _ (clientB_no (fun q=>by rw [q.2.1] at h2;cases h2))),z27x2⟩
  have HU:=Aside0.mk (And.intro h1 h2)
  have HN0:=Aside0.mk (show 0 ≤ num ∧ num ≤ 60 from by unfold rng at h2;exact of_decide_eq_true h2)
  go_enter Try.func17,Try.ntmps17
  go_wp2_with (first|((with_reducible refine gate_dst (N:=1) rfl ?_);refine box_event ?hg (N:=1) ?hd (cs:=#[.int .i64 id,.int .i64 num,.slice A2 W.length c2,.slice A3 C.length c3,.slice A4 S.length c4,.slice A5 M.length c5]) (t:=28) ?hr ?_;(case hd=>rfl);(case hg=>rfl);(case hr=>first|(go_simp;done)|(go_simp;rfl));intro g1 hg_ w1 hbox_ hb_;have HK:=Aside0.mk hbox_;have mm_:=Aside0.mk (below_step z27x2 hb_);clear HB;have HB:=mm_;clear mm_;have hk0 : w1.cell? ⟨g1,0,none⟩ = some (.int .i64 id):=(blk_cell HK.out 0).trans rfl;have hk1 : w1.cell? ⟨g1,1,none⟩ = some (.int .i64 num):=(blk_cell HK.out 1).trans rfl;have hk2 : w1.cell? ⟨g1,2,none⟩ = some (.slice A2 W.length c2):=(blk_cell HK.out 2).trans rfl;have hk3 : w1.cell? ⟨g1,3,none⟩ = some (.slice A3 C.length c3):=(blk_cell HK.out 3).trans rfl;have hk4 : w1.cell? ⟨g1,4,none⟩ = some (.slice A4 S.length c4):=(blk_cell HK.out 4).trans rfl;have hk5 : w1.cell? ⟨g1,5,none⟩ = some (.slice A5 M.length c5):=(blk_cell HK.out 5).trans rfl;clear hb_ hbox_ hg_)|(go_at_call 66;refine (impl_userOk.calls _ _ _ (userOk_rng _)).mono ?_;rintro e w_ ⟨rfl,⟨nd_,rfl⟩⟩)|(go_at_call 72;refine (impl_within.calls _ _ _ _ _ (within_rng _ _ _)).mono ?_;rintro e w_ ⟨rfl,⟨nd_,rfl⟩⟩))
  clear h1 h2 hk0 hk1 hk2 hk3 hk4 hk5
  go_loopg [3,25] W.length (fun kq v3 v25 w' => ∃ (x last : Int),v3 = .int .i64 last ∧ v25 = .int .i64 x ∧ Aside0 (last = lastW W x ∧ 0 ≤ last ∧ last ≤ 60) ∧ Aside0 (0 ≤ x ∧ x + kq = W.length) ∧ Aside0 (∀ j : Nat,(j : Int) < x → wantOk num W j) ∧ Aside0 (Below w1.heap.size w1 w'))
  case atStart=>exact ⟨0,0,by first|rfl|(simp;done)|(simp [*];done),by first|rfl|(simp;done)|(simp [*];done),⟨⟨by unfold lastW;rw [if_pos rfl],by omega,by omega⟩⟩,⟨by omega⟩,⟨fun j hj=>by omega⟩,⟨z27x1⟩⟩
  case round =>
    obtain ⟨x,last,rfl,rfl,HLST,HX,HO,HL⟩:=hrel
    have hk0 : wr.cell? ⟨g1,0,none⟩ = some (.int .i64 id):=(blk_cell (blkC (below_step HL.out z27x1) HK.out) 0).trans rfl
    have hk1 : wr.cell? ⟨g1,1,none⟩ = some (.int .i64 num):=(blk_cell (blkC (below_step HL.out z27x1) HK.out) 1).trans rfl
    have hk2 : wr.cell? ⟨g1,2,none⟩ = some (.slice A2 W.length c2):=(blk_cell (blkC (below_step HL.out z27x1) HK.out) 2).trans rfl
    have hk3 : wr.cell? ⟨g1,3,none⟩ = some (.slice A3 C.length c3):=(blk_cell (blkC (below_step HL.out z27x1) HK.out) 3).trans rfl
    have hk4 : wr.cell? ⟨g1,4,none⟩ = some (.slice A4 S.length c4):=(blk_cell (blkC (below_step HL.out z27x1) HK.out) 4).trans rfl
    have hk5 : wr.cell? ⟨g1,5,none⟩ = some (.slice A5 M.length c5):=(blk_cell (blkC (below_step HL.out z27x1) HK.out) 5).trans rfl
    by_cases hlt : x < (W.length : Int)
    case neg =>
      have d1 : decide (x < (W.length : Int)) = false:=decide_eq_false hlt
      have HAW:=Aside0.mk (show ∀ j : Nat,(j : Int) < W.length → wantOk num W j from fun j hj=>HO.out j (by have:=HX.out;omega))
      clear HO HX
      go_wp2_with fail
      go_loopg [49] C.length (fun kq v49 w' => ∃ (x : Int),v49 = .int .i64 x ∧ Aside0 (0 ≤ x ∧ x + kq = C.length) ∧ Aside0 (∀ j : Nat,(j : Int) < x → credOk C j) ∧ Aside0 (Below w1.heap.size w1 w'))
      case atStart=>exact ⟨0,by first|rfl|(simp;done)|(simp [*];done),⟨by omega⟩,⟨fun j hj=>by omega⟩,⟨z27x3⟩⟩
      case round =>
        clear HL
        obtain ⟨x,rfl,HX,HO,HL⟩:=hrel
        have hk0 : wr.cell? ⟨g1,0,none⟩ = some (.int .i64 id):=(blk_cell (blkC (below_step HL.out z27x1) HK.out) 0).trans rfl
        have hk1 : wr.cell? ⟨g1,1,none⟩ = some (.int .i64 num):=(blk_cell (blkC (below_step HL.out z27x1) HK.out) 1).trans rfl
        have hk2 : wr.cell? ⟨g1,2,none⟩ = some (.slice A2 W.length c2):=(blk_cell (blkC (below_step HL.out z27x1) HK.out) 2).trans rfl
        have hk3 : wr.cell? ⟨g1,3,none⟩ = some (.slice A3 C.length c3):=(blk_cell (blkC (below_step HL.out z27x1) HK.out) 3).trans rfl
        have hk4 : wr.cell? ⟨g1,4,none⟩ = some (.slice A4 S.length c4):=(blk_cell (blkC (below_step HL.out z27x1) HK.out) 4).trans rfl
        have hk5 : wr.cell? ⟨g1,5,none⟩ = some (.slice A5 M.length c5):=(blk_cell (blkC (below_step HL.out z27x1) HK.out) 5).trans rfl
        by_cases hlt : x < (C.length : Int)
        case neg =>
          have d1 : decide (x < (C.length : Int)) = false:=decide_eq_false hlt
          have HAC:=Aside0.mk (show ∀ j : Nat,(j : Int) < C.length → credOk C j from fun j hj=>HO.out j (by have:=HX.out;omega))
          clear HO HX
          go_wp2_with fail
          go_loopg [3,87] S.length (fun kq v3 v87 w' => ∃ (x last : Int),v3 = .int .i64 last ∧ v87 = .int .i64 x ∧ Aside0 (last = lastS S x ∧ 0 ≤ last ∧ last ≤ 60) ∧ Aside0 (0 ≤ x ∧ x + kq = S.length) ∧ Aside0 (∀ j : Nat,(j : Int) < x → sentOk num S j) ∧ Aside0 (Below w1.heap.size w1 w'))
          case atStart=>exact ⟨0,0,by first|rfl|(simp;done)|(simp [*];done),by first|rfl|(simp;done)|(simp [*];done),⟨⟨by unfold lastS;rw [if_pos rfl],by omega,by omega⟩⟩,⟨by omega⟩,⟨fun j hj=>by omega⟩,⟨z27x3⟩⟩
          case round =>
            clear HL
            obtain ⟨x,last,rfl,rfl,HLST,HX,HO,HL⟩:=hrel
            have hk0 : wr.cell? ⟨g1,0,none⟩ = some (.int .i64 id):=(blk_cell (blkC (below_step HL.out z27x1) HK.out) 0).trans rfl
            have hk1 : wr.cell? ⟨g1,1,none⟩ = some (.int .i64 num):=(blk_cell (blkC (below_step HL.out z27x1) HK.out) 1).trans rfl
            have hk2 : wr.cell? ⟨g1,2,none⟩ = some (.slice A2 W.length c2):=(blk_cell (blkC (below_step HL.out z27x1) HK.out) 2).trans rfl
            have hk3 : wr.cell? ⟨g1,3,none⟩ = some (.slice A3 C.length c3):=(blk_cell (blkC (below_step HL.out z27x1) HK.out) 3).trans rfl
            have hk4 : wr.cell? ⟨g1,4,none⟩ = some (.slice A4 S.length c4):=(blk_cell (blkC (below_step HL.out z27x1) HK.out) 4).trans rfl
            have hk5 : wr.cell? ⟨g1,5,none⟩ = some (.slice A5 M.length c5):=(blk_cell (blkC (below_step HL.out z27x1) HK.out) 5).trans rfl
            by_cases hlt : x < (S.length : Int)
            case neg =>
              have d1 : decide (x < (S.length : Int)) = false:=decide_eq_false hlt
              have HAS:=Aside0.mk (show ∀ j : Nat,(j : Int) < S.length → sentOk num S j from fun j hj=>HO.out j (by have:=HX.out;omega))
              clear HO HX
              go_wp2_with fail
              go_loopg [123] M.length (fun kq qb w' => ∃ (x : Int),qb = .int .i64 x ∧ Aside0 (0 ≤ x ∧ x + kq = M.length) ∧ Aside0 (∀ j : Nat,(j : Int) < x → metOk S M j) ∧ Aside0 (Below w1.heap.size w1 w'))
              case atStart=>exact ⟨0,by first|rfl|(simp;done)|(simp [*];done),⟨by omega⟩,⟨fun j hj=>by omega⟩,⟨z27x3⟩⟩
              case round =>
                clear HL
                obtain ⟨x,rfl,HX,HO,HL⟩:=hrel
                have hk0 : wr.cell? ⟨g1,0,none⟩ = some (.int .i64 id):=(blk_cell (blkC (below_step HL.out z27x1) HK.out) 0).trans rfl
                have hk1 : wr.cell? ⟨g1,1,none⟩ = some (.int .i64 num):=(blk_cell (blkC (below_step HL.out z27x1) HK.out) 1).trans rfl
                have hk2 : wr.cell? ⟨g1,2,none⟩ = some (.slice A2 W.length c2):=(blk_cell (blkC (below_step HL.out z27x1) HK.out) 2).trans rfl
                have hk3 : wr.cell? ⟨g1,3,none⟩ = some (.slice A3 C.length c3):=(blk_cell (blkC (below_step HL.out z27x1) HK.out) 3).trans rfl
                have hk4 : wr.cell? ⟨g1,4,none⟩ = some (.slice A4 S.length c4):=(blk_cell (blkC (below_step HL.out z27x1) HK.out) 4).trans rfl
                have hk5 : wr.cell? ⟨g1,5,none⟩ = some (.slice A5 M.length c5):=(blk_cell (blkC (below_step HL.out z27x1) HK.out) 5).trans rfl
                by_cases hlt : x < (M.length : Int)
                case neg =>
                  have d1 : decide (x < (M.length : Int)) = false:=decide_eq_false hlt
                  have HAM:=Aside0.mk (show ∀ j : Nat,(j : Int) < M.length → metOk S M j from fun j hj=>HO.out j (by have:=HX.out;omega))
                  clear HO HX
                  go_wp2_with fail
                  go_ret
                  exact ⟨congrArg _ (congrArg _ (clientB_yes ⟨HU.out.1,HU.out.2,HAW.out,HAC.out,HAS.out,HAM.out⟩)),below_step HB.out (below_step HL.out z27x1)⟩
                have d1 : decide (x < (M.length : Int)) = true:=decide_eq_true hlt
                have p0 : 0 ≤ x:=HX.out.1
                obtain ⟨ad,e0,hx0,hx1,hx2,hx3⟩:=at_T113 (Kd.C_below (Kd.C_below HR5.out.1 HB.out) HL.out) x p0 hlt
                cases e0
                have hw1 : x + 1 ≤ 9223372036854775807:=by have:=HR5.out.1.2.1;omega
                by_cases hg : metOk S M x
                case neg =>
                  have HG0:=Aside0.mk hg
                  rcases pathM hg with h1|⟨h1,h2⟩
                  case inl =>
                    have H1:=Aside0.mk (show (false = true) ↔ rd_T113 M x ∈ S from ⟨fun e=>(by cases e),fun e=>absurd e h1⟩)
                    clear hg h1
                    go_upto_region 28 with (first|((with_reducible refine gate_dst (N:=11) rfl ?_);refine box_event ?hg (N:=11) ?hd (cs:=#[.int .i64 0,.int .i64 0,.int .i64 0,.int .i64 0]) (t:=113) ?hr ?_;(case hd=>rfl);(case hg=>rfl);(case hr=>first|(go_simp;done)|(go_simp;rfl));intro g5 hg_ w2 hbox_ hb_;have HG_:=Aside0.mk hbox_;have HG:=Aside0.mk (show wr.heap.size ≤ g5 from by rw [hg_];exact Nat.le_refl _);have HP:=Aside0.mk (below_step z27x0 hb_);have hz0 : w2.cell? ⟨g5,0,none⟩ = some (.int .i64 0):=(blk_cell HG_.out 0).trans rfl;have hz1 : w2.cell? ⟨g5,1,none⟩ = some (.int .i64 0):=(blk_cell HG_.out 1).trans rfl;have hz2 : w2.cell? ⟨g5,2,none⟩ = some (.int .i64 0):=(blk_cell HG_.out 2).trans rfl;have hz3 : w2.cell? ⟨g5,3,none⟩ = some (.int .i64 0):=(blk_cell HG_.out 3).trans rfl;have hf0:=blk_frozen HG_.out 0;have hf1:=blk_frozen HG_.out 1;have hf2:=blk_frozen HG_.out 2;have hf3:=blk_frozen HG_.out 3;clear hb_ hbox_ hg_)|((with_reducible refine gate_store (t:=113) (p:=11) rfl ?_);refine store_event (t:=113) (p:=11) (v:=.tmp 127) (w1:=((((w2.setCell ⟨g5,0,none⟩ (.int .i64 (rd_T113 M x).f0)).setCell ⟨g5,1,none⟩ (.int .i64 (rd_T113 M x).f1)).setCell ⟨g5,2,none⟩ (.int .i64 (rd_T113 M x).f2)).setCell ⟨g5,3,none⟩ (.int .i64 (rd_T113 M x).f3))) ?hg ?ho ?hn ?hr ?_;(case ho=>rfl);(case hg=>rfl);(case hn=>rfl);(case hr=>first|(go_simp;done)|(go_simp;rfl));intro w3 hw_;have mq_:=Aside0.mk (show w3.heap[g5]? = some (.cells #[.int .i64 (rd_T113 M x).f0,.int .i64 (rd_T113 M x).f1,.int .i64 (rd_T113 M x).f2,.int .i64 (rd_T113 M x).f3] 113 (0,0)) from by rw [hw_];exact callBoxPut HG_.out _ _ _ _);have mp_:=Aside0.mk (show Below wr.heap.size wr w3 from by rw [hw_];exact callBoxB HP.out HG.out _ _ _ _);clear hw_ HG_ HP HG hz0 hz1 hz2 hz3 hf0 hf1 hf2 hf3;have HG_:=mq_;have HP:=mp_;clear mq_ mp_;have he0 : w3.cell? ⟨g5,0,none⟩ = some (.int .i64 (rd_T113 M x).f0):=(blk_cell HG_.out 0).trans rfl;have he1 : w3.cell? ⟨g5,1,none⟩ = some (.int .i64 (rd_T113 M x).f1):=(blk_cell HG_.out 1).trans rfl;have he2 : w3.cell? ⟨g5,2,none⟩ = some (.int .i64 (rd_T113 M x).f2):=(blk_cell HG_.out 2).trans rfl;have he3 : w3.cell? ⟨g5,3,none⟩ = some (.int .i64 (rd_T113 M x).f3):=(blk_cell HG_.out 3).trans rfl;clear hk0 hk1 hk2 hk3 hk4 hk5;have hk0 : w3.cell? ⟨g1,0,none⟩ = some (.int .i64 id):=(blk_cell (blkC (below_step HL.out HP.out) HK.out) 0).trans rfl;have hk1 : w3.cell? ⟨g1,1,none⟩ = some (.int .i64 num):=(blk_cell (blkC (below_step HL.out HP.out) HK.out) 1).trans rfl;have hk2 : w3.cell? ⟨g1,2,none⟩ = some (.slice A2 W.length c2):=(blk_cell (blkC (below_step HL.out HP.out) HK.out) 2).trans rfl;have hk3 : w3.cell? ⟨g1,3,none⟩ = some (.slice A3 C.length c3):=(blk_cell (blkC (below_step HL.out HP.out) HK.out) 3).trans rfl;have hk4 : w3.cell? ⟨g1,4,none⟩ = some (.slice A4 S.length c4):=(blk_cell (blkC (below_step HL.out HP.out) HK.out) 4).trans rfl;have hk5 : w3.cell? ⟨g1,5,none⟩ = some (.slice (some ad) M.length c5):=(blk_cell (blkC (below_step HL.out HP.out) HK.out) 5).trans rfl))
                    refine start_ (n:=13) (S:=fun w' => Below w3.heap.size w3 w') (ds:=[]) #[false,false,false,false,false,false,false,false,false,false,false,false,false] (by kernel_rfl) rfl rfl z27x1 (fun hS=>?_)
                    refine pure_ (i:=0) (N:=some 128) (v:=?_) (a':=?_) #[true,false,false,false,false,false,false,false,false,false,false,false,false] rfl rfl (by kernel_rfl) (fun _ _ _ h=>h) (Or.inl ⟨by rfl,?_⟩) ?_ ?_
                    rotate_left
                    · intro w'
                      go_simp
                      with_reducible rfl
                    rotate_left
                    · simp only [Act.put,List.setIfInBounds_toArray,List.set_cons_zero,List.set_cons_succ,i64_w,i32_w]
                      rfl
                    refine take_ (i:=1) (N:=some 129) (v:=?_) (a':=?_) #[true,true,false,false,false,false,false,false,false,false,false,false,false] rfl rfl (by kernel_rfl) (fun _ _ _ h=>h) (Or.inl ⟨by rfl,?_⟩) hS ?_ ?_
                    rotate_left
                    · intro w' hS_
                      replace hS_ : Below w3.heap.size w3 w':=hS_
                      have s0 : w'.cell? ⟨g1,0,none⟩ = some (.int .i64 id):=(blk_cell (blkC hS_ (blkC (below_step HL.out HP.out) HK.out)) 0).trans rfl
                      have s1 : w'.cell? ⟨g1,1,none⟩ = some (.int .i64 num):=(blk_cell (blkC hS_ (blkC (below_step HL.out HP.out) HK.out)) 1).trans rfl
                      have s2 : w'.cell? ⟨g1,2,none⟩ = some (.slice A2 W.length c2):=(blk_cell (blkC hS_ (blkC (below_step HL.out HP.out) HK.out)) 2).trans rfl
                      have s3 : w'.cell? ⟨g1,3,none⟩ = some (.slice A3 C.length c3):=(blk_cell (blkC hS_ (blkC (below_step HL.out HP.out) HK.out)) 3).trans rfl
                      have s4 : w'.cell? ⟨g1,4,none⟩ = some (.slice A4 S.length c4):=(blk_cell (blkC hS_ (blkC (below_step HL.out HP.out) HK.out)) 4).trans rfl
                      have s5 : w'.cell? ⟨g1,5,none⟩ = some (.slice (some ad) M.length c5):=(blk_cell (blkC hS_ (blkC (below_step HL.out HP.out) HK.out)) 5).trans rfl
                      go_simp
                      with_reducible rfl
                    rotate_left
                    · simp only [Act.put,List.setIfInBounds_toArray,List.set_cons_zero,List.set_cons_succ,i64_w,i32_w]
                      rfl
                    refine take_ (i:=2) (N:=some 130) (v:=?_) (a':=?_) #[true,true,true,false,false,false,false,false,false,false,false,false,false] rfl rfl (by kernel_rfl) (fun _ _ _ h=>h) (Or.inl ⟨by rfl,?_⟩) hS ?_ ?_
                    rotate_left
                    · intro w' hS_
                      replace hS_ : Below w3.heap.size w3 w':=hS_
                      have s0 : w'.cell? ⟨g5,0,none⟩ = some (.int .i64 (rd_T113 M x).f0):=(blk_cell (blkC hS_ HG_.out) 0).trans rfl
                      have s1 : w'.cell? ⟨g5,1,none⟩ = some (.int .i64 (rd_T113 M x).f1):=(blk_cell (blkC hS_ HG_.out) 1).trans rfl
                      have s2 : w'.cell? ⟨g5,2,none⟩ = some (.int .i64 (rd_T113 M x).f2):=(blk_cell (blkC hS_ HG_.out) 2).trans rfl
                      have s3 : w'.cell? ⟨g5,3,none⟩ = some (.int .i64 (rd_T113 M x).f3):=(blk_cell (blkC hS_ HG_.out) 3).trans rfl
                      go_simp
                      with_reducible rfl
                    rotate_left
                    · simp only [Act.put,List.setIfInBounds_toArray,List.set_cons_zero,List.set_cons_succ,i64_w,i32_w]
                      rfl
                    refine one_ (i:=3) (N:=some 131) #[true,true,true,true,false,false,false,false,false,false,false,false,false] rfl rfl (by kernel_rfl) (by decide) (fun K hK=>?_)
                    refine goes_ Try.func77 (by kernel_rfl) rfl #[.slice A4 S.length c4,.agg #[.int .i64 (rd_T113 M x).f0,.int .i64 (rd_T113 M x).f1,.int .i64 (rd_T113 M x).f2,.int .i64 (rd_T113 M x).f3]] (by rfl) rfl rfl z27x6 ?_
                    with_reducible refine (callIs A4 c4 S (rd_T113 M x) false _ (Kd.C_below (Kd.C_below (Kd.C_below (Kd.C_below HR4.out.1 HB.out) HL.out) HP.out) hS) HR4.out.2 H1.out).mono ?_
                    rintro e w4 ⟨rfl,hb_⟩
                    refine ⟨_,rfl,?_⟩
                    refine hK.out _ _ (below_step hS hb_) (fun hS2=>?_)
                    clear hK K
                    refine norm_ (a':=?_) ?_ ?_
                    rotate_left
                    · show Act.put _ (some 131) _ = _
                      simp only [Act.put,List.setIfInBounds_toArray,List.set_cons_zero,List.set_cons_succ,i64_w,i32_w]
                      rfl
                    replace hS2 : Below w3.heap.size w3 w4:=hS2
                    clear hS hb_
                    have hS:=hS2
                    clear hS2
                    refine pure_ (i:=4) (N:=some 132) (v:=?_) (a':=?_) #[true,true,true,true,true,false,false,false,false,false,false,false,false] rfl rfl (by kernel_rfl) (fun _ _ _ h=>h) (Or.inl ⟨by rfl,?_⟩) ?_ ?_
                    rotate_left
                    · intro w'
                      go_simp
                      with_reducible rfl
                    rotate_left
                    · simp only [Act.put,List.setIfInBounds_toArray,List.set_cons_zero,List.set_cons_succ,i64_w,i32_w]
                      rfl
                    refine pure_ (i:=5) (N:=some 133) (v:=?_) (a':=?_) #[true,true,true,true,true,true,false,false,false,false,false,false,false] rfl rfl (by kernel_rfl) (fun _ _ _ h=>h) (Or.inl ⟨by rfl,?_⟩) ?_ ?_
                    rotate_left
                    · intro w'
                      go_simp
                      with_reducible rfl
                    rotate_left
                    · simp only [Act.put,List.setIfInBounds_toArray,List.set_cons_zero,List.set_cons_succ,i64_w,i32_w]
                      rfl
                    refine pure_ (i:=6) (N:=some 134) (v:=undef) (a':=?_) #[true,true,true,true,true,true,true,false,false,false,false,false,false] rfl rfl (by kernel_rfl) (fun _ _ _ h=>h) (Or.inr ⟨by rfl,rfl⟩) ?_ ?_
                    rotate_left
                    · simp only [Act.put,List.setIfInBounds_toArray,List.set_cons_zero,List.set_cons_succ,i64_w,i32_w]
                      rfl
                    refine pure_ (i:=7) (N:=some 135) (v:=undef) (a':=?_) #[true,true,true,true,true,true,true,true,false,false,false,false,false] rfl rfl (by kernel_rfl) (fun _ _ _ h=>h) (Or.inr ⟨by rfl,rfl⟩) ?_ ?_
                    rotate_left
                    · simp only [Act.put,List.setIfInBounds_toArray,List.set_cons_zero,List.set_cons_succ,i64_w,i32_w]
                      rfl
                    refine pure_ (i:=8) (N:=some 136) (v:=undef) (a':=?_) #[true,true,true,true,true,true,true,true,true,false,false,false,false] rfl rfl (by kernel_rfl) (fun _ _ _ h=>h) (Or.inr ⟨by rfl,rfl⟩) ?_ ?_
                    rotate_left
                    · simp only [Act.put,List.setIfInBounds_toArray,List.set_cons_zero,List.set_cons_succ,i64_w,i32_w]
                      rfl
                    refine pure_ (i:=9) (N:=some 137) (v:=undef) (a':=?_) #[true,true,true,true,true,true,true,true,true,true,false,false,false] rfl rfl (by kernel_rfl) (fun _ _ _ h=>h) (Or.inr ⟨by rfl,rfl⟩) ?_ ?_
                    rotate_left
                    · simp only [Act.put,List.setIfInBounds_toArray,List.set_cons_zero,List.set_cons_succ,i64_w,i32_w]
                      rfl
                    refine pure_ (i:=10) (N:=some 138) (v:=undef) (a':=?_) #[true,true,true,true,true,true,true,true,true,true,true,false,false] rfl rfl (by kernel_rfl) (fun _ _ _ h=>h) (Or.inr ⟨by rfl,rfl⟩) ?_ ?_
                    rotate_left
                    · simp only [Act.put,List.setIfInBounds_toArray,List.set_cons_zero,List.set_cons_succ,i64_w,i32_w]
                      rfl
                    refine pure_ (i:=11) (N:=some 139) (v:=undef) (a':=?_) #[true,true,true,true,true,true,true,true,true,true,true,true,false] rfl rfl (by kernel_rfl) (fun _ _ _ h=>h) (Or.inr ⟨by rfl,rfl⟩) ?_ ?_
                    rotate_left
                    · simp only [Act.put,List.setIfInBounds_toArray,List.set_cons_zero,List.set_cons_succ,i64_w,i32_w]
                      rfl
                    refine pure_ (i:=12) (N:=some 140) (v:=?_) (a':=?_) #[true,true,true,true,true,true,true,true,true,true,true,true,true] rfl rfl (by kernel_rfl) (fun _ _ _ h=>h) (Or.inl ⟨by rfl,?_⟩) ?_ ?_
                    rotate_left
                    · intro w'
                      go_simp
                      with_reducible rfl
                    rotate_left
                    · simp only [Act.put,List.setIfInBounds_toArray,List.set_cons_zero,List.set_cons_succ,i64_w,i32_w]
                      rfl
                    refine done_ (by kernel_rfl) ?_
                    have mm_:=Aside0.mk (below_step HP.out hS)
                    clear HP hS
                    have HP:=mm_
                    clear mm_
                    go_wp2_with fail
                    go_ret
                    exact ⟨congrArg _ (congrArg _ (clientB_no (fun q=>HG0.out (by have h_:=q.2.2.2.2.2 x.toNat (by omega);rwa [Int.toNat_of_nonneg p0] at h_)))),below_step HB.out (below_step HL.out z27x4)⟩
                  case inr =>
                    have H1:=Aside0.mk (show (true = true) ↔ rd_T113 M x ∈ S from ⟨fun _=>h1,fun _=>rfl⟩)
                    obtain ⟨T,hT_⟩ : ∃ T_ : List S113,T_ = M.take x.toNat:=⟨_,rfl⟩
                    rw [← hT_] at h2
                    have HT:=Aside0.mk (show Kd.C k113 wr (some ad) T.length T ∧ T.length ≤ c5 from by rw [hT_];exact ⟨Kd.C_take (Kd.C_below (Kd.C_below HR5.out.1 HB.out) HL.out) (by omega),by rw [List.length_take];have:=HR5.out.2;omega⟩)
                    have htk : T.length = x.toNat:=by rw [hT_,List.length_take];omega
                    obtain ⟨i0_,hi0_,_,hsz_,_⟩:=info_parts info113
                    have wg:=cut_to (P:=Try.prog) 26 113 .i64 Try.underlying26 hi0_ (some ad) M.length c5 x p0 (by omega) HR5.out.2
                    rw [← htk] at wg
                    clear hT_ htk
                    have H2:=Aside0.mk (show (true = true) ↔ rd_T113 M x ∈ T from ⟨fun _=>h2,fun _=>rfl⟩)
                    clear hg h1 h2
                    go_upto_region 28 with (first|((with_reducible refine gate_dst (N:=11) rfl ?_);refine box_event ?hg (N:=11) ?hd (cs:=#[.int .i64 0,.int .i64 0,.int .i64 0,.int .i64 0]) (t:=113) ?hr ?_;(case hd=>rfl);(case hg=>rfl);(case hr=>first|(go_simp;done)|(go_simp;rfl));intro g5 hg_ w2 hbox_ hb_;have HG_:=Aside0.mk hbox_;have HG:=Aside0.mk (show wr.heap.size ≤ g5 from by rw [hg_];exact Nat.le_refl _);have HP:=Aside0.mk (below_step z27x0 hb_);have hz0 : w2.cell? ⟨g5,0,none⟩ = some (.int .i64 0):=(blk_cell HG_.out 0).trans rfl;have hz1 : w2.cell? ⟨g5,1,none⟩ = some (.int .i64 0):=(blk_cell HG_.out 1).trans rfl;have hz2 : w2.cell? ⟨g5,2,none⟩ = some (.int .i64 0):=(blk_cell HG_.out 2).trans rfl;have hz3 : w2.cell? ⟨g5,3,none⟩ = some (.int .i64 0):=(blk_cell HG_.out 3).trans rfl;have hf0:=blk_frozen HG_.out 0;have hf1:=blk_frozen HG_.out 1;have hf2:=blk_frozen HG_.out 2;have hf3:=blk_frozen HG_.out 3;clear hb_ hbox_ hg_)|((with_reducible refine gate_store (t:=113) (p:=11) rfl ?_);refine store_event (t:=113) (p:=11) (v:=.tmp 127) (w1:=((((w2.setCell ⟨g5,0,none⟩ (.int .i64 (rd_T113 M x).f0)).setCell ⟨g5,1,none⟩ (.int .i64 (rd_T113 M x).f1)).setCell ⟨g5,2,none⟩ (.int .i64 (rd_T113 M x).f2)).setCell ⟨g5,3,none⟩ (.int .i64 (rd_T113 M x).f3))) ?hg ?ho ?hn ?hr ?_;(case ho=>rfl);(case hg=>rfl);(case hn=>rfl);(case hr=>first|(go_simp;done)|(go_simp;rfl));intro w3 hw_;have mq_:=Aside0.mk (show w3.heap[g5]? = some (.cells #[.int .i64 (rd_T113 M x).f0,.int .i64 (rd_T113 M x).f1,.int .i64 (rd_T113 M x).f2,.int .i64 (rd_T113 M x).f3] 113 (0,0)) from by rw [hw_];exact callBoxPut HG_.out _ _ _ _);have mp_:=Aside0.mk (show Below wr.heap.size wr w3 from by rw [hw_];exact callBoxB HP.out HG.out _ _ _ _);clear hw_ HG_ HP HG hz0 hz1 hz2 hz3 hf0 hf1 hf2 hf3;have HG_:=mq_;have HP:=mp_;clear mq_ mp_;have he0 : w3.cell? ⟨g5,0,none⟩ = some (.int .i64 (rd_T113 M x).f0):=(blk_cell HG_.out 0).trans rfl;have he1 : w3.cell? ⟨g5,1,none⟩ = some (.int .i64 (rd_T113 M x).f1):=(blk_cell HG_.out 1).trans rfl;have he2 : w3.cell? ⟨g5,2,none⟩ = some (.int .i64 (rd_T113 M x).f2):=(blk_cell HG_.out 2).trans rfl;have he3 : w3.cell? ⟨g5,3,none⟩ = some (.int .i64 (rd_T113 M x).f3):=(blk_cell HG_.out 3).trans rfl;clear hk0 hk1 hk2 hk3 hk4 hk5;have hk0 : w3.cell? ⟨g1,0,none⟩ = some (.int .i64 id):=(blk_cell (blkC (below_step HL.out HP.out) HK.out) 0).trans rfl;have hk1 : w3.cell? ⟨g1,1,none⟩ = some (.int .i64 num):=(blk_cell (blkC (below_step HL.out HP.out) HK.out) 1).trans rfl;have hk2 : w3.cell? ⟨g1,2,none⟩ = some (.slice A2 W.length c2):=(blk_cell (blkC (below_step HL.out HP.out) HK.out) 2).trans rfl;have hk3 : w3.cell? ⟨g1,3,none⟩ = some (.slice A3 C.length c3):=(blk_cell (blkC (below_step HL.out HP.out) HK.out) 3).trans rfl;have hk4 : w3.cell? ⟨g1,4,none⟩ = some (.slice A4 S.length c4):=(blk_cell (blkC (below_step HL.out HP.out) HK.out) 4).trans rfl;have hk5 : w3.cell? ⟨g1,5,none⟩ = some (.slice (some ad) M.length c5):=(blk_cell (blkC (below_step HL.out HP.out) HK.out) 5).trans rfl))
                    refine start_ (n:=13) (S:=fun w' => Below w3.heap.size w3 w') (ds:=[]) #[false,false,false,false,false,false,false,false,false,false,false,false,false] (by kernel_rfl) rfl rfl z27x1 (fun hS=>?_)
                    refine pure_ (i:=0) (N:=some 128) (v:=?_) (a':=?_) #[true,false,false,false,false,false,false,false,false,false,false,false,false] rfl rfl (by kernel_rfl) (fun _ _ _ h=>h) (Or.inl ⟨by rfl,?_⟩) ?_ ?_
                    rotate_left
                    · intro w'
                      go_simp
                      with_reducible rfl
                    rotate_left
                    · simp only [Act.put,List.setIfInBounds_toArray,List.set_cons_zero,List.set_cons_succ,i64_w,i32_w]
                      rfl
                    refine take_ (i:=1) (N:=some 129) (v:=?_) (a':=?_) #[true,true,false,false,false,false,false,false,false,false,false,false,false] rfl rfl (by kernel_rfl) (fun _ _ _ h=>h) (Or.inl ⟨by rfl,?_⟩) hS ?_ ?_
                    rotate_left
                    · intro w' hS_
                      replace hS_ : Below w3.heap.size w3 w':=hS_
                      have s0 : w'.cell? ⟨g1,0,none⟩ = some (.int .i64 id):=(blk_cell (blkC hS_ (blkC (below_step HL.out HP.out) HK.out)) 0).trans rfl
                      have s1 : w'.cell? ⟨g1,1,none⟩ = some (.int .i64 num):=(blk_cell (blkC hS_ (blkC (below_step HL.out HP.out) HK.out)) 1).trans rfl
                      have s2 : w'.cell? ⟨g1,2,none⟩ = some (.slice A2 W.length c2):=(blk_cell (blkC hS_ (blkC (below_step HL.out HP.out) HK.out)) 2).trans rfl
                      have s3 : w'.cell? ⟨g1,3,none⟩ = some (.slice A3 C.length c3):=(blk_cell (blkC hS_ (blkC (below_step HL.out HP.out) HK.out)) 3).trans rfl
                      have s4 : w'.cell? ⟨g1,4,none⟩ = some (.slice A4 S.length c4):=(blk_cell (blkC hS_ (blkC (below_step HL.out HP.out) HK.out)) 4).trans rfl
                      have s5 : w'.cell? ⟨g1,5,none⟩ = some (.slice (some ad) M.length c5):=(blk_cell (blkC hS_ (blkC (below_step HL.out HP.out) HK.out)) 5).trans rfl
                      go_simp
                      with_reducible rfl
                    rotate_left
                    · simp only [Act.put,List.setIfInBounds_toArray,List.set_cons_zero,List.set_cons_succ,i64_w,i32_w]
                      rfl
                    refine take_ (i:=2) (N:=some 130) (v:=?_) (a':=?_) #[true,true,true,false,false,false,false,false,false,false,false,false,false] rfl rfl (by kernel_rfl) (fun _ _ _ h=>h) (Or.inl ⟨by rfl,?_⟩) hS ?_ ?_
                    rotate_left
                    · intro w' hS_
                      replace hS_ : Below w3.heap.size w3 w':=hS_
                      have s0 : w'.cell? ⟨g5,0,none⟩ = some (.int .i64 (rd_T113 M x).f0):=(blk_cell (blkC hS_ HG_.out) 0).trans rfl
                      have s1 : w'.cell? ⟨g5,1,none⟩ = some (.int .i64 (rd_T113 M x).f1):=(blk_cell (blkC hS_ HG_.out) 1).trans rfl
                      have s2 : w'.cell? ⟨g5,2,none⟩ = some (.int .i64 (rd_T113 M x).f2):=(blk_cell (blkC hS_ HG_.out) 2).trans rfl
                      have s3 : w'.cell? ⟨g5,3,none⟩ = some (.int .i64 (rd_T113 M x).f3):=(blk_cell (blkC hS_ HG_.out) 3).trans rfl
                      go_simp
                      with_reducible rfl
                    rotate_left
                    · simp only [Act.put,List.setIfInBounds_toArray,List.set_cons_zero,List.set_cons_succ,i64_w,i32_w]
                      rfl
                    refine one_ (i:=3) (N:=some 131) #[true,true,true,true,false,false,false,false,false,false,false,false,false] rfl rfl (by kernel_rfl) (by decide) (fun K hK=>?_)
                    refine goes_ Try.func77 (by kernel_rfl) rfl #[.slice A4 S.length c4,.agg #[.int .i64 (rd_T113 M x).f0,.int .i64 (rd_T113 M x).f1,.int .i64 (rd_T113 M x).f2,.int .i64 (rd_T113 M x).f3]] (by rfl) rfl rfl z27x6 ?_
                    with_reducible refine (callIs A4 c4 S (rd_T113 M x) true _ (Kd.C_below (Kd.C_below (Kd.C_below (Kd.C_below HR4.out.1 HB.out) HL.out) HP.out) hS) HR4.out.2 H1.out).mono ?_
                    rintro e w4 ⟨rfl,hb_⟩
                    refine ⟨_,rfl,?_⟩
                    refine hK.out _ _ (below_step hS hb_) (fun hS2=>?_)
                    clear hK K
                    refine norm_ (a':=?_) ?_ ?_
                    rotate_left
                    · show Act.put _ (some 131) _ = _
                      simp only [Act.put,List.setIfInBounds_toArray,List.set_cons_zero,List.set_cons_succ,i64_w,i32_w]
                      rfl
                    replace hS2 : Below w3.heap.size w3 w4:=hS2
                    clear hS hb_
                    have hS:=hS2
                    clear hS2
                    refine pure_ (i:=4) (N:=some 132) (v:=?_) (a':=?_) #[true,true,true,true,true,false,false,false,false,false,false,false,false] rfl rfl (by kernel_rfl) (fun _ _ _ h=>h) (Or.inl ⟨by rfl,?_⟩) ?_ ?_
                    rotate_left
                    · intro w'
                      go_simp
                      with_reducible rfl
                    rotate_left
                    · simp only [Act.put,List.setIfInBounds_toArray,List.set_cons_zero,List.set_cons_succ,i64_w,i32_w]
                      rfl
                    refine pure_ (i:=5) (N:=some 133) (v:=?_) (a':=?_) #[true,true,true,true,true,true,false,false,false,false,false,false,false] rfl rfl (by kernel_rfl) (fun _ _ _ h=>h) (Or.inl ⟨by rfl,?_⟩) ?_ ?_
                    rotate_left
                    · intro w'
                      go_simp
                      with_reducible rfl
                    rotate_left
                    · simp only [Act.put,List.setIfInBounds_toArray,List.set_cons_zero,List.set_cons_succ,i64_w,i32_w]
                      rfl
                    refine pure_ (i:=6) (N:=some 134) (v:=?_) (a':=?_) #[true,true,true,true,true,true,true,false,false,false,false,false,false] rfl rfl (by kernel_rfl) (fun _ _ _ h=>h) (Or.inl ⟨by rfl,?_⟩) ?_ ?_
                    rotate_left
                    · intro w'
                      go_simp
                      with_reducible rfl
                    rotate_left
                    · simp only [Act.put,List.setIfInBounds_toArray,List.set_cons_zero,List.set_cons_succ,i64_w,i32_w]
                      rfl
                    refine take_ (i:=7) (N:=some 135) (v:=?_) (a':=?_) #[true,true,true,true,true,true,true,true,false,false,false,false,false] rfl rfl (by kernel_rfl) (fun _ _ _ h=>h) (Or.inl ⟨by rfl,?_⟩) hS ?_ ?_
                    rotate_left
                    · intro w' hS_
                      replace hS_ : Below w3.heap.size w3 w':=hS_
                      have s0 : w'.cell? ⟨g1,0,none⟩ = some (.int .i64 id):=(blk_cell (blkC hS_ (blkC (below_step HL.out HP.out) HK.out)) 0).trans rfl
                      have s1 : w'.cell? ⟨g1,1,none⟩ = some (.int .i64 num):=(blk_cell (blkC hS_ (blkC (below_step HL.out HP.out) HK.out)) 1).trans rfl
                      have s2 : w'.cell? ⟨g1,2,none⟩ = some (.slice A2 W.length c2):=(blk_cell (blkC hS_ (blkC (below_step HL.out HP.out) HK.out)) 2).trans rfl
                      have s3 : w'.cell? ⟨g1,3,none⟩ = some (.slice A3 C.length c3):=(blk_cell (blkC hS_ (blkC (below_step HL.out HP.out) HK.out)) 3).trans rfl
                      have s4 : w'.cell? ⟨g1,4,none⟩ = some (.slice A4 S.length c4):=(blk_cell (blkC hS_ (blkC (below_step HL.out HP.out) HK.out)) 4).trans rfl
                      have s5 : w'.cell? ⟨g1,5,none⟩ = some (.slice (some ad) M.length c5):=(blk_cell (blkC hS_ (blkC (below_step HL.out HP.out) HK.out)) 5).trans rfl
                      go_simp
                      with_reducible rfl
                    rotate_left
                    · simp only [Act.put,List.setIfInBounds_toArray,List.set_cons_zero,List.set_cons_succ,i64_w,i32_w]
                      rfl
                    refine pure_ (i:=8) (N:=some 136) (v:=?_) (a':=?_) #[true,true,true,true,true,true,true,true,true,false,false,false,false] rfl rfl (by kernel_rfl) (fun _ _ _ h=>h) (Or.inl ⟨by rfl,?_⟩) ?_ ?_
                    rotate_left
                    · intro w'
                      go_simp
                      with_reducible rfl
                    rotate_left
                    · simp only [Act.put,List.setIfInBounds_toArray,List.set_cons_zero,List.set_cons_succ,i64_w,i32_w]
                      rfl
                    refine pure_ (i:=9) (N:=some 137) (v:=?_) (a':=?_) #[true,true,true,true,true,true,true,true,true,true,false,false,false] rfl rfl (by kernel_rfl) (fun _ _ _ h=>h) (Or.inl ⟨by rfl,?_⟩) ?_ ?_
                    rotate_left
                    · intro w'
                      go_simp
                      with_reducible rfl
                    rotate_left
                    · simp only [Act.put,List.setIfInBounds_toArray,List.set_cons_zero,List.set_cons_succ,i64_w,i32_w]
                      rfl
                    refine take_ (i:=10) (N:=some 138) (v:=?_) (a':=?_) #[true,true,true,true,true,true,true,true,true,true,true,false,false] rfl rfl (by kernel_rfl) (fun _ _ _ h=>h) (Or.inl ⟨by rfl,?_⟩) hS ?_ ?_
                    rotate_left
                    · intro w' hS_
                      replace hS_ : Below w3.heap.size w3 w':=hS_
                      have s0 : w'.cell? ⟨g5,0,none⟩ = some (.int .i64 (rd_T113 M x).f0):=(blk_cell (blkC hS_ HG_.out) 0).trans rfl
                      have s1 : w'.cell? ⟨g5,1,none⟩ = some (.int .i64 (rd_T113 M x).f1):=(blk_cell (blkC hS_ HG_.out) 1).trans rfl
                      have s2 : w'.cell? ⟨g5,2,none⟩ = some (.int .i64 (rd_T113 M x).f2):=(blk_cell (blkC hS_ HG_.out) 2).trans rfl
                      have s3 : w'.cell? ⟨g5,3,none⟩ = some (.int .i64 (rd_T113 M x).f3):=(blk_cell (blkC hS_ HG_.out) 3).trans rfl
                      go_simp
                      with_reducible rfl
                    rotate_left
                    · simp only [Act.put,List.setIfInBounds_toArray,List.set_cons_zero,List.set_cons_succ,i64_w,i32_w]
                      rfl
                    refine one_ (i:=11) (N:=some 139) #[true,true,true,true,true,true,true,true,true,true,true,true,false] rfl rfl (by kernel_rfl) (by decide) (fun K hK=>?_)
                    refine goes_ Try.func77 (by kernel_rfl) rfl #[.slice (some ad) T.length c5,.agg #[.int .i64 (rd_T113 M x).f0,.int .i64 (rd_T113 M x).f1,.int .i64 (rd_T113 M x).f2,.int .i64 (rd_T113 M x).f3]] (by rfl) rfl rfl z27x6 ?_
                    with_reducible refine (callIs (some ad) c5 T (rd_T113 M x) true _ (Kd.C_below (Kd.C_below HT.out.1 HP.out) hS) HT.out.2 H2.out).mono ?_
                    rintro e w5 ⟨rfl,hb_⟩
                    refine ⟨_,rfl,?_⟩
                    refine hK.out _ _ (below_step hS hb_) (fun hS2=>?_)
                    clear hK K
                    refine norm_ (a':=?_) ?_ ?_
                    rotate_left
                    · show Act.put _ (some 139) _ = _
                      simp only [Act.put,List.setIfInBounds_toArray,List.set_cons_zero,List.set_cons_succ,i64_w,i32_w]
                      rfl
                    replace hS2 : Below w3.heap.size w3 w5:=hS2
                    clear hS hb_
                    have hS:=hS2
                    clear hS2
                    refine pure_ (i:=12) (N:=some 140) (v:=?_) (a':=?_) #[true,true,true,true,true,true,true,true,true,true,true,true,true] rfl rfl (by kernel_rfl) (fun _ _ _ h=>h) (Or.inl ⟨by rfl,?_⟩) ?_ ?_
                    rotate_left
                    · intro w'
                      go_simp
                      with_reducible rfl
                    rotate_left
                    · simp only [Act.put,List.setIfInBounds_toArray,List.set_cons_zero,List.set_cons_succ,i64_w,i32_w]
                      rfl
                    refine done_ (by kernel_rfl) ?_
                    have mm_:=Aside0.mk (below_step HP.out hS)
                    clear HP hS
                    have HP:=mm_
                    clear mm_
                    go_wp2_with fail
                    go_ret
                    exact ⟨congrArg _ (congrArg _ (clientB_no (fun q=>HG0.out (by have h_:=q.2.2.2.2.2 x.toNat (by omega);rwa [Int.toNat_of_nonneg p0] at h_)))),below_step HB.out (below_step HL.out z27x4)⟩
                have HG0:=Aside0.mk hg
                obtain ⟨h1,h2⟩:=hg
                have H1:=Aside0.mk (show (true = true) ↔ rd_T113 M x ∈ S from ⟨fun _=>h1,fun _=>rfl⟩)
                obtain ⟨T,hT_⟩ : ∃ T_ : List S113,T_ = M.take x.toNat:=⟨_,rfl⟩
                rw [← hT_] at h2
                have HT:=Aside0.mk (show Kd.C k113 wr (some ad) T.length T ∧ T.length ≤ c5 from by rw [hT_];exact ⟨Kd.C_take (Kd.C_below (Kd.C_below HR5.out.1 HB.out) HL.out) (by omega),by rw [List.length_take];have:=HR5.out.2;omega⟩)
                have htk : T.length = x.toNat:=by rw [hT_,List.length_take];omega
                obtain ⟨i0_,hi0_,_,hsz_,_⟩:=info_parts info113
                have wg:=cut_to (P:=Try.prog) 26 113 .i64 Try.underlying26 hi0_ (some ad) M.length c5 x p0 (by omega) HR5.out.2
                rw [← htk] at wg
                clear hT_ htk
                have H2:=Aside0.mk (show (false = true) ↔ rd_T113 M x ∈ T from ⟨fun e=>(by cases e),fun e=>absurd e h2⟩)
                clear h1 h2
                go_upto_region 28 with (first|((with_reducible refine gate_dst (N:=11) rfl ?_);refine box_event ?hg (N:=11) ?hd (cs:=#[.int .i64 0,.int .i64 0,.int .i64 0,.int .i64 0]) (t:=113) ?hr ?_;(case hd=>rfl);(case hg=>rfl);(case hr=>first|(go_simp;done)|(go_simp;rfl));intro g5 hg_ w2 hbox_ hb_;have HG_:=Aside0.mk hbox_;have HG:=Aside0.mk (show wr.heap.size ≤ g5 from by rw [hg_];exact Nat.le_refl _);have HP:=Aside0.mk (below_step z27x0 hb_);have hz0 : w2.cell? ⟨g5,0,none⟩ = some (.int .i64 0):=(blk_cell HG_.out 0).trans rfl;have hz1 : w2.cell? ⟨g5,1,none⟩ = some (.int .i64 0):=(blk_cell HG_.out 1).trans rfl;have hz2 : w2.cell? ⟨g5,2,none⟩ = some (.int .i64 0):=(blk_cell HG_.out 2).trans rfl;have hz3 : w2.cell? ⟨g5,3,none⟩ = some (.int .i64 0):=(blk_cell HG_.out 3).trans rfl;have hf0:=blk_frozen HG_.out 0;have hf1:=blk_frozen HG_.out 1;have hf2:=blk_frozen HG_.out 2;have hf3:=blk_frozen HG_.out 3;clear hb_ hbox_ hg_)|((with_reducible refine gate_store (t:=113) (p:=11) rfl ?_);refine store_event (t:=113) (p:=11) (v:=.tmp 127) (w1:=((((w2.setCell ⟨g5,0,none⟩ (.int .i64 (rd_T113 M x).f0)).setCell ⟨g5,1,none⟩ (.int .i64 (rd_T113 M x).f1)).setCell ⟨g5,2,none⟩ (.int .i64 (rd_T113 M x).f2)).setCell ⟨g5,3,none⟩ (.int .i64 (rd_T113 M x).f3))) ?hg ?ho ?hn ?hr ?_;(case ho=>rfl);(case hg=>rfl);(case hn=>rfl);(case hr=>first|(go_simp;done)|(go_simp;rfl));intro w3 hw_;have mq_:=Aside0.mk (show w3.heap[g5]? = some (.cells #[.int .i64 (rd_T113 M x).f0,.int .i64 (rd_T113 M x).f1,.int .i64 (rd_T113 M x).f2,.int .i64 (rd_T113 M x).f3] 113 (0,0)) from by rw [hw_];exact callBoxPut HG_.out _ _ _ _);have mp_:=Aside0.mk (show Below wr.heap.size wr w3 from by rw [hw_];exact callBoxB HP.out HG.out _ _ _ _);clear hw_ HG_ HP HG hz0 hz1 hz2 hz3 hf0 hf1 hf2 hf3;have HG_:=mq_;have HP:=mp_;clear mq_ mp_;have he0 : w3.cell? ⟨g5,0,none⟩ = some (.int .i64 (rd_T113 M x).f0):=(blk_cell HG_.out 0).trans rfl;have he1 : w3.cell? ⟨g5,1,none⟩ = some (.int .i64 (rd_T113 M x).f1):=(blk_cell HG_.out 1).trans rfl;have he2 : w3.cell? ⟨g5,2,none⟩ = some (.int .i64 (rd_T113 M x).f2):=(blk_cell HG_.out 2).trans rfl;have he3 : w3.cell? ⟨g5,3,none⟩ = some (.int .i64 (rd_T113 M x).f3):=(blk_cell HG_.out 3).trans rfl;clear hk0 hk1 hk2 hk3 hk4 hk5;have hk0 : w3.cell? ⟨g1,0,none⟩ = some (.int .i64 id):=(blk_cell (blkC (below_step HL.out HP.out) HK.out) 0).trans rfl;have hk1 : w3.cell? ⟨g1,1,none⟩ = some (.int .i64 num):=(blk_cell (blkC (below_step HL.out HP.out) HK.out) 1).trans rfl;have hk2 : w3.cell? ⟨g1,2,none⟩ = some (.slice A2 W.length c2):=(blk_cell (blkC (below_step HL.out HP.out) HK.out) 2).trans rfl;have hk3 : w3.cell? ⟨g1,3,none⟩ = some (.slice A3 C.length c3):=(blk_cell (blkC (below_step HL.out HP.out) HK.out) 3).trans rfl;have hk4 : w3.cell? ⟨g1,4,none⟩ = some (.slice A4 S.length c4):=(blk_cell (blkC (below_step HL.out HP.out) HK.out) 4).trans rfl;have hk5 : w3.cell? ⟨g1,5,none⟩ = some (.slice (some ad) M.length c5):=(blk_cell (blkC (below_step HL.out HP.out) HK.out) 5).trans rfl))
                refine start_ (n:=13) (S:=fun w' => Below w3.heap.size w3 w') (ds:=[]) #[false,false,false,false,false,false,false,false,false,false,false,false,false] (by kernel_rfl) rfl rfl z27x1 (fun hS=>?_)
                refine pure_ (i:=0) (N:=some 128) (v:=?_) (a':=?_) #[true,false,false,false,false,false,false,false,false,false,false,false,false] rfl rfl (by kernel_rfl) (fun _ _ _ h=>h) (Or.inl ⟨by rfl,?_⟩) ?_ ?_
                rotate_left
                · intro w'
                  go_simp
                  with_reducible rfl
                rotate_left
                · simp only [Act.put,List.setIfInBounds_toArray,List.set_cons_zero,List.set_cons_succ,i64_w,i32_w]
                  rfl
                refine take_ (i:=1) (N:=some 129) (v:=?_) (a':=?_) #[true,true,false,false,false,false,false,false,false,false,false,false,false] rfl rfl (by kernel_rfl) (fun _ _ _ h=>h) (Or.inl ⟨by rfl,?_⟩) hS ?_ ?_
                rotate_left
                · intro w' hS_
                  replace hS_ : Below w3.heap.size w3 w':=hS_
                  have s0 : w'.cell? ⟨g1,0,none⟩ = some (.int .i64 id):=(blk_cell (blkC hS_ (blkC (below_step HL.out HP.out) HK.out)) 0).trans rfl
                  have s1 : w'.cell? ⟨g1,1,none⟩ = some (.int .i64 num):=(blk_cell (blkC hS_ (blkC (below_step HL.out HP.out) HK.out)) 1).trans rfl
                  have s2 : w'.cell? ⟨g1,2,none⟩ = some (.slice A2 W.length c2):=(blk_cell (blkC hS_ (blkC (below_step HL.out HP.out) HK.out)) 2).trans rfl
                  have s3 : w'.cell? ⟨g1,3,none⟩ = some (.slice A3 C.length c3):=(blk_cell (blkC hS_ (blkC (below_step HL.out HP.out) HK.out)) 3).trans rfl
                  have s4 : w'.cell? ⟨g1,4,none⟩ = some (.slice A4 S.length c4):=(blk_cell (blkC hS_ (blkC (below_step HL.out HP.out) HK.out)) 4).trans rfl
                  have s5 : w'.cell? ⟨g1,5,none⟩ = some (.slice (some ad) M.length c5):=(blk_cell (blkC hS_ (blkC (below_step HL.out HP.out) HK.out)) 5).trans rfl
                  go_simp
                  with_reducible rfl
                rotate_left
                · simp only [Act.put,List.setIfInBounds_toArray,List.set_cons_zero,List.set_cons_succ,i64_w,i32_w]
                  rfl
                refine take_ (i:=2) (N:=some 130) (v:=?_) (a':=?_) #[true,true,true,false,false,false,false,false,false,false,false,false,false] rfl rfl (by kernel_rfl) (fun _ _ _ h=>h) (Or.inl ⟨by rfl,?_⟩) hS ?_ ?_
                rotate_left
                · intro w' hS_
                  replace hS_ : Below w3.heap.size w3 w':=hS_
                  have s0 : w'.cell? ⟨g5,0,none⟩ = some (.int .i64 (rd_T113 M x).f0):=(blk_cell (blkC hS_ HG_.out) 0).trans rfl
                  have s1 : w'.cell? ⟨g5,1,none⟩ = some (.int .i64 (rd_T113 M x).f1):=(blk_cell (blkC hS_ HG_.out) 1).trans rfl
                  have s2 : w'.cell? ⟨g5,2,none⟩ = some (.int .i64 (rd_T113 M x).f2):=(blk_cell (blkC hS_ HG_.out) 2).trans rfl
                  have s3 : w'.cell? ⟨g5,3,none⟩ = some (.int .i64 (rd_T113 M x).f3):=(blk_cell (blkC hS_ HG_.out) 3).trans rfl
                  go_simp
                  with_reducible rfl
                rotate_left
                · simp only [Act.put,List.setIfInBounds_toArray,List.set_cons_zero,List.set_cons_succ,i64_w,i32_w]
                  rfl
                refine one_ (i:=3) (N:=some 131) #[true,true,true,true,false,false,false,false,false,false,false,false,false] rfl rfl (by kernel_rfl) (by decide) (fun K hK=>?_)
                refine goes_ Try.func77 (by kernel_rfl) rfl #[.slice A4 S.length c4,.agg #[.int .i64 (rd_T113 M x).f0,.int .i64 (rd_T113 M x).f1,.int .i64 (rd_T113 M x).f2,.int .i64 (rd_T113 M x).f3]] (by rfl) rfl rfl z27x6 ?_
                with_reducible refine (callIs A4 c4 S (rd_T113 M x) true _ (Kd.C_below (Kd.C_below (Kd.C_below (Kd.C_below HR4.out.1 HB.out) HL.out) HP.out) hS) HR4.out.2 H1.out).mono ?_
                rintro e w4 ⟨rfl,hb_⟩
                refine ⟨_,rfl,?_⟩
                refine hK.out _ _ (below_step hS hb_) (fun hS2=>?_)
                clear hK K
                refine norm_ (a':=?_) ?_ ?_
                rotate_left
                · show Act.put _ (some 131) _ = _
                  simp only [Act.put,List.setIfInBounds_toArray,List.set_cons_zero,List.set_cons_succ,i64_w,i32_w]
                  rfl
                replace hS2 : Below w3.heap.size w3 w4:=hS2
                clear hS hb_
                have hS:=hS2
                clear hS2
                refine pure_ (i:=4) (N:=some 132) (v:=?_) (a':=?_) #[true,true,true,true,true,false,false,false,false,false,false,false,false] rfl rfl (by kernel_rfl) (fun _ _ _ h=>h) (Or.inl ⟨by rfl,?_⟩) ?_ ?_
                rotate_left
                · intro w'
                  go_simp
                  with_reducible rfl
                rotate_left
                · simp only [Act.put,List.setIfInBounds_toArray,List.set_cons_zero,List.set_cons_succ,i64_w,i32_w]
                  rfl
                refine pure_ (i:=5) (N:=some 133) (v:=?_) (a':=?_) #[true,true,true,true,true,true,false,false,false,false,false,false,false] rfl rfl (by kernel_rfl) (fun _ _ _ h=>h) (Or.inl ⟨by rfl,?_⟩) ?_ ?_
                rotate_left
                · intro w'
                  go_simp
                  with_reducible rfl
                rotate_left
                · simp only [Act.put,List.setIfInBounds_toArray,List.set_cons_zero,List.set_cons_succ,i64_w,i32_w]
                  rfl
                refine pure_ (i:=6) (N:=some 134) (v:=?_) (a':=?_) #[true,true,true,true,true,true,true,false,false,false,false,false,false] rfl rfl (by kernel_rfl) (fun _ _ _ h=>h) (Or.inl ⟨by rfl,?_⟩) ?_ ?_
                rotate_left
                · intro w'
                  go_simp
                  with_reducible rfl
                rotate_left
                · simp only [Act.put,List.setIfInBounds_toArray,List.set_cons_zero,List.set_cons_succ,i64_w,i32_w]
                  rfl
                refine take_ (i:=7) (N:=some 135) (v:=?_) (a':=?_) #[true,true,true,true,true,true,true,true,false,false,false,false,false] rfl rfl (by kernel_rfl) (fun _ _ _ h=>h) (Or.inl ⟨by rfl,?_⟩) hS ?_ ?_
                rotate_left
                · intro w' hS_
                  replace hS_ : Below w3.heap.size w3 w':=hS_
                  have s0 : w'.cell? ⟨g1,0,none⟩ = some (.int .i64 id):=(blk_cell (blkC hS_ (blkC (below_step HL.out HP.out) HK.out)) 0).trans rfl
                  have s1 : w'.cell? ⟨g1,1,none⟩ = some (.int .i64 num):=(blk_cell (blkC hS_ (blkC (below_step HL.out HP.out) HK.out)) 1).trans rfl
                  have s2 : w'.cell? ⟨g1,2,none⟩ = some (.slice A2 W.length c2):=(blk_cell (blkC hS_ (blkC (below_step HL.out HP.out) HK.out)) 2).trans rfl
                  have s3 : w'.cell? ⟨g1,3,none⟩ = some (.slice A3 C.length c3):=(blk_cell (blkC hS_ (blkC (below_step HL.out HP.out) HK.out)) 3).trans rfl
                  have s4 : w'.cell? ⟨g1,4,none⟩ = some (.slice A4 S.length c4):=(blk_cell (blkC hS_ (blkC (below_step HL.out HP.out) HK.out)) 4).trans rfl
                  have s5 : w'.cell? ⟨g1,5,none⟩ = some (.slice (some ad) M.length c5):=(blk_cell (blkC hS_ (blkC (below_step HL.out HP.out) HK.out)) 5).trans rfl
                  go_simp
                  with_reducible rfl
                rotate_left
                · simp only [Act.put,List.setIfInBounds_toArray,List.set_cons_zero,List.set_cons_succ,i64_w,i32_w]
                  rfl
                refine pure_ (i:=8) (N:=some 136) (v:=?_) (a':=?_) #[true,true,true,true,true,true,true,true,true,false,false,false,false] rfl rfl (by kernel_rfl) (fun _ _ _ h=>h) (Or.inl ⟨by rfl,?_⟩) ?_ ?_
                rotate_left
                · intro w'
                  go_simp
                  with_reducible rfl
                rotate_left
                · simp only [Act.put,List.setIfInBounds_toArray,List.set_cons_zero,List.set_cons_succ,i64_w,i32_w]
                  rfl
                refine pure_ (i:=9) (N:=some 137) (v:=?_) (a':=?_) #[true,true,true,true,true,true,true,true,true,true,false,false,false] rfl rfl (by kernel_rfl) (fun _ _ _ h=>h) (Or.inl ⟨by rfl,?_⟩) ?_ ?_
                rotate_left
                · intro w'
                  go_simp
                  with_reducible rfl
                rotate_left
                · simp only [Act.put,List.setIfInBounds_toArray,List.set_cons_zero,List.set_cons_succ,i64_w,i32_w]
                  rfl
                refine take_ (i:=10) (N:=some 138) (v:=?_) (a':=?_) #[true,true,true,true,true,true,true,true,true,true,true,false,false] rfl rfl (by kernel_rfl) (fun _ _ _ h=>h) (Or.inl ⟨by rfl,?_⟩) hS ?_ ?_
                rotate_left
                · intro w' hS_
                  replace hS_ : Below w3.heap.size w3 w':=hS_
                  have s0 : w'.cell? ⟨g5,0,none⟩ = some (.int .i64 (rd_T113 M x).f0):=(blk_cell (blkC hS_ HG_.out) 0).trans rfl
                  have s1 : w'.cell? ⟨g5,1,none⟩ = some (.int .i64 (rd_T113 M x).f1):=(blk_cell (blkC hS_ HG_.out) 1).trans rfl
                  have s2 : w'.cell? ⟨g5,2,none⟩ = some (.int .i64 (rd_T113 M x).f2):=(blk_cell (blkC hS_ HG_.out) 2).trans rfl
                  have s3 : w'.cell? ⟨g5,3,none⟩ = some (.int .i64 (rd_T113 M x).f3):=(blk_cell (blkC hS_ HG_.out) 3).trans rfl
                  go_simp
                  with_reducible rfl
                rotate_left
                · simp only [Act.put,List.setIfInBounds_toArray,List.set_cons_zero,List.set_cons_succ,i64_w,i32_w]
                  rfl
                refine one_ (i:=11) (N:=some 139) #[true,true,true,true,true,true,true,true,true,true,true,true,false] rfl rfl (by kernel_rfl) (by decide) (fun K hK=>?_)
                refine goes_ Try.func77 (by kernel_rfl) rfl #[.slice (some ad) T.length c5,.agg #[.int .i64 (rd_T113 M x).f0,.int .i64 (rd_T113 M x).f1,.int .i64 (rd_T113 M x).f2,.int .i64 (rd_T113 M x).f3]] (by rfl) rfl rfl z27x6 ?_
                with_reducible refine (callIs (some ad) c5 T (rd_T113 M x) false _ (Kd.C_below (Kd.C_below HT.out.1 HP.out) hS) HT.out.2 H2.out).mono ?_
                rintro e w5 ⟨rfl,hb_⟩
                refine ⟨_,rfl,?_⟩
                refine hK.out _ _ (below_step hS hb_) (fun hS2=>?_)
                clear hK K
                refine norm_ (a':=?_) ?_ ?_
                rotate_left
                · show Act.put _ (some 139) _ = _
                  simp only [Act.put,List.setIfInBounds_toArray,List.set_cons_zero,List.set_cons_succ,i64_w,i32_w]
                  rfl
                replace hS2 : Below w3.heap.size w3 w5:=hS2
                clear hS hb_
                have hS:=hS2
                clear hS2
                refine pure_ (i:=12) (N:=some 140) (v:=?_) (a':=?_) #[true,true,true,true,true,true,true,true,true,true,true,true,true] rfl rfl (by kernel_rfl) (fun _ _ _ h=>h) (Or.inl ⟨by rfl,?_⟩) ?_ ?_
                rotate_left
                · intro w'
                  go_simp
                  with_reducible rfl
                rotate_left
                · simp only [Act.put,List.setIfInBounds_toArray,List.set_cons_zero,List.set_cons_succ,i64_w,i32_w]
                  rfl
                refine done_ (by kernel_rfl) ?_
                have mm_:=Aside0.mk (below_step HP.out hS)
                clear HP hS
                have HP:=mm_
                clear mm_
                go_wp2_with fail
                go_roundg (gk - 1)
                case measure=>have:=HX.out.2;omega
                case rel =>
                  exact ⟨x + 1,by first|rfl|(simp;done)|(simp [*];done),⟨by have:=HX.out;omega⟩,⟨upto p0 HO.out (by rw [Int.toNat_of_nonneg p0];exact HG0.out)⟩,⟨below_step HL.out z27x4⟩⟩
            have d1 : decide (x < (S.length : Int)) = true:=decide_eq_true hlt
            have p0 : 0 ≤ x:=HX.out.1
            obtain ⟨ad,e0,hx0,hx1,hx2,hx3⟩:=at_T113 (Kd.C_below (Kd.C_below HR4.out.1 HB.out) HL.out) x p0 hlt
            cases e0
            have hw1 : x + 1 ≤ 9223372036854775807:=by have:=HR4.out.1.2.1;omega
            have hwl : wrap64 (last + 1) = last + 1:=by have:=HLST.out;unfold wrap64;omega
            have qc : IntKind.i64.wrap (last + 1) = last + 1:=(i64_w _).trans hwl
            by_cases hg : sentOk num S x
            case neg =>
              have HG0:=Aside0.mk hg
              rcases pathS hg with h1|⟨h1,h2⟩|⟨h1,h2,h3⟩|⟨h1,h2,h3,h4⟩
              all_goals
                try rw [← HLST.out.1] at h4
                clear hg
                go_wp2_with (first|((with_reducible refine gate_dst (N:=9) rfl ?_);refine box_event ?hg (N:=9) ?hd (cs:=#[.int .i64 0,.int .i64 0,.int .i64 0,.int .i64 0]) (t:=113) ?hr ?_;(case hd=>rfl);(case hg=>rfl);(case hr=>first|(go_simp;done)|(go_simp;rfl));intro g5 hg_ w2 hbox_ hb_;have HG_:=Aside0.mk hbox_;have HG:=Aside0.mk (show wr.heap.size ≤ g5 from by rw [hg_];exact Nat.le_refl _);have HP:=Aside0.mk (below_step z27x0 hb_);have hz0 : w2.cell? ⟨g5,0,none⟩ = some (.int .i64 0):=(blk_cell HG_.out 0).trans rfl;have hz1 : w2.cell? ⟨g5,1,none⟩ = some (.int .i64 0):=(blk_cell HG_.out 1).trans rfl;have hz2 : w2.cell? ⟨g5,2,none⟩ = some (.int .i64 0):=(blk_cell HG_.out 2).trans rfl;have hz3 : w2.cell? ⟨g5,3,none⟩ = some (.int .i64 0):=(blk_cell HG_.out 3).trans rfl;have hf0:=blk_frozen HG_.out 0;have hf1:=blk_frozen HG_.out 1;have hf2:=blk_frozen HG_.out 2;have hf3:=blk_frozen HG_.out 3;clear hb_ hbox_ hg_)|((with_reducible refine gate_store (t:=113) (p:=9) rfl ?_);refine store_event (t:=113) (p:=9) (v:=.tmp 90) (w1:=((((w2.setCell ⟨g5,0,none⟩ (.int .i64 (rd_T113 S x).f0)).setCell ⟨g5,1,none⟩ (.int .i64 (rd_T113 S x).f1)).setCell ⟨g5,2,none⟩ (.int .i64 (rd_T113 S x).f2)).setCell ⟨g5,3,none⟩ (.int .i64 (rd_T113 S x).f3))) ?hg ?ho ?hn ?hr ?_;(case ho=>rfl);(case hg=>rfl);(case hn=>rfl);(case hr=>first|(go_simp;done)|(go_simp;rfl));intro w3 hw_;have mq_:=Aside0.mk (show w3.heap[g5]? = some (.cells #[.int .i64 (rd_T113 S x).f0,.int .i64 (rd_T113 S x).f1,.int .i64 (rd_T113 S x).f2,.int .i64 (rd_T113 S x).f3] 113 (0,0)) from by rw [hw_];exact callBoxPut HG_.out _ _ _ _);have mp_:=Aside0.mk (show Below wr.heap.size wr w3 from by rw [hw_];exact callBoxB HP.out HG.out _ _ _ _);clear hw_ HG_ HP HG hz0 hz1 hz2 hz3 hf0 hf1 hf2 hf3;have HG_:=mq_;have HP:=mp_;clear mq_ mp_;have he0 : w3.cell? ⟨g5,0,none⟩ = some (.int .i64 (rd_T113 S x).f0):=(blk_cell HG_.out 0).trans rfl;have he1 : w3.cell? ⟨g5,1,none⟩ = some (.int .i64 (rd_T113 S x).f1):=(blk_cell HG_.out 1).trans rfl;have he2 : w3.cell? ⟨g5,2,none⟩ = some (.int .i64 (rd_T113 S x).f2):=(blk_cell HG_.out 2).trans rfl;have he3 : w3.cell? ⟨g5,3,none⟩ = some (.int .i64 (rd_T113 S x).f3):=(blk_cell HG_.out 3).trans rfl;clear hk0 hk1 hk2 hk3 hk4 hk5;have hk0 : w3.cell? ⟨g1,0,none⟩ = some (.int .i64 id):=(blk_cell (blkC (below_step HL.out HP.out) HK.out) 0).trans rfl;have hk1 : w3.cell? ⟨g1,1,none⟩ = some (.int .i64 num):=(blk_cell (blkC (below_step HL.out HP.out) HK.out) 1).trans rfl;have hk2 : w3.cell? ⟨g1,2,none⟩ = some (.slice A2 W.length c2):=(blk_cell (blkC (below_step HL.out HP.out) HK.out) 2).trans rfl;have hk3 : w3.cell? ⟨g1,3,none⟩ = some (.slice A3 C.length c3):=(blk_cell (blkC (below_step HL.out HP.out) HK.out) 3).trans rfl;have hk4 : w3.cell? ⟨g1,4,none⟩ = some (.slice (some ad) S.length c4):=(blk_cell (blkC (below_step HL.out HP.out) HK.out) 4).trans rfl;have hk5 : w3.cell? ⟨g1,5,none⟩ = some (.slice A5 M.length c5):=(blk_cell (blkC (below_step HL.out HP.out) HK.out) 5).trans rfl)|(go_at_call 76;refine (impl_servOk.calls _ _ _ (servOk_rng _)).mono ?_;rintro e w_ ⟨rfl,⟨nd_,rfl⟩⟩)|(go_at_call 75;refine (impl_madeOk.calls _ _ _ (madeOk_rng _)).mono ?_;rintro e w_ ⟨rfl,⟨nd_,rfl⟩⟩)|(go_at_call 68;refine (impl_timeOk.calls _ _ _ (timeOk_rng _)).mono ?_;rintro e w_ ⟨rfl,⟨nd_,rfl⟩⟩)|(go_at_call 72;refine (impl_within.calls _ _ _ _ _ (within_rng _ _ _)).mono ?_;rintro e w_ ⟨rfl,⟨nd_,rfl⟩⟩))
                go_ret
                exact ⟨congrArg _ (congrArg _ (clientB_no (fun q=>HG0.out (by have h_:=q.2.2.2.2.1 x.toNat (by omega);rwa [Int.toNat_of_nonneg p0] at h_)))),below_step HB.out (below_step HL.out z27x4)⟩
            have HG0:=Aside0.mk hg
            obtain ⟨h1,h2,h3,h4⟩:=hg
            try rw [← HLST.out.1] at h4
            go_wp2_with (first|((with_reducible refine gate_dst (N:=9) rfl ?_);refine box_event ?hg (N:=9) ?hd (cs:=#[.int .i64 0,.int .i64 0,.int .i64 0,.int .i64 0]) (t:=113) ?hr ?_;(case hd=>rfl);(case hg=>rfl);(case hr=>first|(go_simp;done)|(go_simp;rfl));intro g5 hg_ w2 hbox_ hb_;have HG_:=Aside0.mk hbox_;have HG:=Aside0.mk (show wr.heap.size ≤ g5 from by rw [hg_];exact Nat.le_refl _);have HP:=Aside0.mk (below_step z27x0 hb_);have hz0 : w2.cell? ⟨g5,0,none⟩ = some (.int .i64 0):=(blk_cell HG_.out 0).trans rfl;have hz1 : w2.cell? ⟨g5,1,none⟩ = some (.int .i64 0):=(blk_cell HG_.out 1).trans rfl;have hz2 : w2.cell? ⟨g5,2,none⟩ = some (.int .i64 0):=(blk_cell HG_.out 2).trans rfl;have hz3 : w2.cell? ⟨g5,3,none⟩ = some (.int .i64 0):=(blk_cell HG_.out 3).trans rfl;have hf0:=blk_frozen HG_.out 0;have hf1:=blk_frozen HG_.out 1;have hf2:=blk_frozen HG_.out 2;have hf3:=blk_frozen HG_.out 3;clear hb_ hbox_ hg_)|((with_reducible refine gate_store (t:=113) (p:=9) rfl ?_);refine store_event (t:=113) (p:=9) (v:=.tmp 90) (w1:=((((w2.setCell ⟨g5,0,none⟩ (.int .i64 (rd_T113 S x).f0)).setCell ⟨g5,1,none⟩ (.int .i64 (rd_T113 S x).f1)).setCell ⟨g5,2,none⟩ (.int .i64 (rd_T113 S x).f2)).setCell ⟨g5,3,none⟩ (.int .i64 (rd_T113 S x).f3))) ?hg ?ho ?hn ?hr ?_;(case ho=>rfl);(case hg=>rfl);(case hn=>rfl);(case hr=>first|(go_simp;done)|(go_simp;rfl));intro w3 hw_;have mq_:=Aside0.mk (show w3.heap[g5]? = some (.cells #[.int .i64 (rd_T113 S x).f0,.int .i64 (rd_T113 S x).f1,.int .i64 (rd_T113 S x).f2,.int .i64 (rd_T113 S x).f3] 113 (0,0)) from by rw [hw_];exact callBoxPut HG_.out _ _ _ _);have mp_:=Aside0.mk (show Below wr.heap.size wr w3 from by rw [hw_];exact callBoxB HP.out HG.out _ _ _ _);clear hw_ HG_ HP HG hz0 hz1 hz2 hz3 hf0 hf1 hf2 hf3;have HG_:=mq_;have HP:=mp_;clear mq_ mp_;have he0 : w3.cell? ⟨g5,0,none⟩ = some (.int .i64 (rd_T113 S x).f0):=(blk_cell HG_.out 0).trans rfl;have he1 : w3.cell? ⟨g5,1,none⟩ = some (.int .i64 (rd_T113 S x).f1):=(blk_cell HG_.out 1).trans rfl;have he2 : w3.cell? ⟨g5,2,none⟩ = some (.int .i64 (rd_T113 S x).f2):=(blk_cell HG_.out 2).trans rfl;have he3 : w3.cell? ⟨g5,3,none⟩ = some (.int .i64 (rd_T113 S x).f3):=(blk_cell HG_.out 3).trans rfl;clear hk0 hk1 hk2 hk3 hk4 hk5;have hk0 : w3.cell? ⟨g1,0,none⟩ = some (.int .i64 id):=(blk_cell (blkC (below_step HL.out HP.out) HK.out) 0).trans rfl;have hk1 : w3.cell? ⟨g1,1,none⟩ = some (.int .i64 num):=(blk_cell (blkC (below_step HL.out HP.out) HK.out) 1).trans rfl;have hk2 : w3.cell? ⟨g1,2,none⟩ = some (.slice A2 W.length c2):=(blk_cell (blkC (below_step HL.out HP.out) HK.out) 2).trans rfl;have hk3 : w3.cell? ⟨g1,3,none⟩ = some (.slice A3 C.length c3):=(blk_cell (blkC (below_step HL.out HP.out) HK.out) 3).trans rfl;have hk4 : w3.cell? ⟨g1,4,none⟩ = some (.slice (some ad) S.length c4):=(blk_cell (blkC (below_step HL.out HP.out) HK.out) 4).trans rfl;have hk5 : w3.cell? ⟨g1,5,none⟩ = some (.slice A5 M.length c5):=(blk_cell (blkC (below_step HL.out HP.out) HK.out) 5).trans rfl)|(go_at_call 76;refine (impl_servOk.calls _ _ _ (servOk_rng _)).mono ?_;rintro e w_ ⟨rfl,⟨nd_,rfl⟩⟩)|(go_at_call 75;refine (impl_madeOk.calls _ _ _ (madeOk_rng _)).mono ?_;rintro e w_ ⟨rfl,⟨nd_,rfl⟩⟩)|(go_at_call 68;refine (impl_timeOk.calls _ _ _ (timeOk_rng _)).mono ?_;rintro e w_ ⟨rfl,⟨nd_,rfl⟩⟩)|(go_at_call 72;refine (impl_within.calls _ _ _ _ _ (within_rng _ _ _)).mono ?_;rintro e w_ ⟨rfl,⟨nd_,rfl⟩⟩))
            go_roundg (gk - 1)
            case measure=>have:=HX.out.2;omega
            case rel =>
              refine ⟨x + 1,(rd_T113 S x).f3,by first|rfl|(simp;done)|(simp [*];done),by first|rfl|(simp;done)|(simp [*];done),⟨?_⟩,⟨by have:=HX.out;omega⟩,⟨upto p0 HO.out (by rw [Int.toNat_of_nonneg p0];exact HG0.out)⟩,⟨below_step HL.out z27x4⟩⟩
              refine ⟨by unfold lastS;rw [if_neg (by omega),show x + 1 - 1 = x by omega],?_⟩
              have h_:=HG0.out.2.2.2
              rw [← HLST.out.1] at h_
              unfold rng at h_
              replace h_:=of_decide_eq_true h_
              have:=HLST.out
              have:=HN0.out
              omega
        have d1 : decide (x < (C.length : Int)) = true:=decide_eq_true hlt
        have p0 : 0 ≤ x:=HX.out.1
        obtain ⟨ad,e0,hx0,hx1,hx2,hx3,hx4,hx5,hx6,hx7,hx8,hx9⟩:=at_T106 (Kd.C_below (Kd.C_below HR3.out.1 HB.out) HL.out) x p0 hlt
        cases e0
        have hw1 : x + 1 ≤ 9223372036854775807:=by have:=HR3.out.1.2.1;omega
        by_cases hg : credOk C x
        case neg =>
          have HG0:=Aside0.mk hg
          rcases pathC hg with h1|⟨h1,hN⟩|⟨h1,hY,h3⟩|⟨h1,hY,h3,h4⟩|⟨h1,hY,h3,h4,h5⟩
          all_goals
            try have HLY:=Aside0.mk hY
            try have HLN:=Aside0.mk hN
            try unfold tickOk at h5
            clear hg
            go_wp2_with (first|((with_reducible refine gate_dst (N:=7) rfl ?_);refine box_event ?hg (N:=7) ?hd (cs:=#[.int .i64 0,.int .i64 0,.int .i64 0,.int .i64 0,.int .i64 0,.int .i64 0,.int .i64 0,.int .i64 0,.int .i64 0,.int .i64 0]) (t:=106) ?hr ?_;(case hd=>rfl);(case hg=>rfl);(case hr=>first|(go_simp;done)|(go_simp;rfl));intro g5 hg_ w2 hbox_ hb_;have HG_:=Aside0.mk hbox_;have HG:=Aside0.mk (show wr.heap.size ≤ g5 from by rw [hg_];exact Nat.le_refl _);have HP:=Aside0.mk (below_step z27x0 hb_);have hz0 : w2.cell? ⟨g5,0,none⟩ = some (.int .i64 0):=(blk_cell HG_.out 0).trans rfl;have hz1 : w2.cell? ⟨g5,1,none⟩ = some (.int .i64 0):=(blk_cell HG_.out 1).trans rfl;have hz2 : w2.cell? ⟨g5,2,none⟩ = some (.int .i64 0):=(blk_cell HG_.out 2).trans rfl;have hz3 : w2.cell? ⟨g5,3,none⟩ = some (.int .i64 0):=(blk_cell HG_.out 3).trans rfl;have hz4 : w2.cell? ⟨g5,4,none⟩ = some (.int .i64 0):=(blk_cell HG_.out 4).trans rfl;have hz5 : w2.cell? ⟨g5,5,none⟩ = some (.int .i64 0):=(blk_cell HG_.out 5).trans rfl;have hz6 : w2.cell? ⟨g5,6,none⟩ = some (.int .i64 0):=(blk_cell HG_.out 6).trans rfl;have hz7 : w2.cell? ⟨g5,7,none⟩ = some (.int .i64 0):=(blk_cell HG_.out 7).trans rfl;have hz8 : w2.cell? ⟨g5,8,none⟩ = some (.int .i64 0):=(blk_cell HG_.out 8).trans rfl;have hz9 : w2.cell? ⟨g5,9,none⟩ = some (.int .i64 0):=(blk_cell HG_.out 9).trans rfl;have hf0:=blk_frozen HG_.out 0;have hf1:=blk_frozen HG_.out 1;have hf2:=blk_frozen HG_.out 2;have hf3:=blk_frozen HG_.out 3;have hf4:=blk_frozen HG_.out 4;have hf5:=blk_frozen HG_.out 5;have hf6:=blk_frozen HG_.out 6;have hf7:=blk_frozen HG_.out 7;have hf8:=blk_frozen HG_.out 8;have hf9:=blk_frozen HG_.out 9;clear hb_ hbox_ hg_)|((with_reducible refine gate_store (t:=106) (p:=7) rfl ?_);refine store_event (t:=106) (p:=7) (v:=.tmp 53) (w1:=((((((((((w2.setCell ⟨g5,0,none⟩ (.int .i64 (rd_T106 C x).f0)).setCell ⟨g5,1,none⟩ (.int .i64 (rd_T106 C x).f1)).setCell ⟨g5,2,none⟩ (.int .i64 (rd_T106 C x).f2)).setCell ⟨g5,3,none⟩ (.int .i64 (rd_T106 C x).f3.f0)).setCell ⟨g5,4,none⟩ (.int .i64 (rd_T106 C x).f3.f1)).setCell ⟨g5,5,none⟩ (.int .i64 (rd_T106 C x).f3.f2)).setCell ⟨g5,6,none⟩ (.int .i64 (rd_T106 C x).f3.f3)).setCell ⟨g5,7,none⟩ (.int .i64 (rd_T106 C x).f3.f4)).setCell ⟨g5,8,none⟩ (.int .i64 (rd_T106 C x).f3.f5)).setCell ⟨g5,9,none⟩ (.int .i64 (rd_T106 C x).f3.f6))) ?hg ?ho ?hn ?hr ?_;(case ho=>rfl);(case hg=>rfl);(case hn=>rfl);(case hr=>first|(go_simp;done)|(go_simp;rfl));intro w3 hw_;have mq_:=Aside0.mk (show w3.heap[g5]? = some (.cells #[.int .i64 (rd_T106 C x).f0,.int .i64 (rd_T106 C x).f1,.int .i64 (rd_T106 C x).f2,.int .i64 (rd_T106 C x).f3.f0,.int .i64 (rd_T106 C x).f3.f1,.int .i64 (rd_T106 C x).f3.f2,.int .i64 (rd_T106 C x).f3.f3,.int .i64 (rd_T106 C x).f3.f4,.int .i64 (rd_T106 C x).f3.f5,.int .i64 (rd_T106 C x).f3.f6] 106 (0,0)) from by rw [hw_];exact credBoxPut HG_.out _ _ _ _ _ _ _ _ _ _);have mp_:=Aside0.mk (show Below wr.heap.size wr w3 from by rw [hw_];exact credBoxB HP.out HG.out _ _ _ _ _ _ _ _ _ _);clear hw_ HG_ HP HG hz0 hz1 hz2 hz3 hz4 hz5 hz6 hz7 hz8 hz9 hf0 hf1 hf2 hf3 hf4 hf5 hf6 hf7 hf8 hf9;have HG_:=mq_;have HP:=mp_;clear mq_ mp_;have he0 : w3.cell? ⟨g5,0,none⟩ = some (.int .i64 (rd_T106 C x).f0):=(blk_cell HG_.out 0).trans rfl;have he1 : w3.cell? ⟨g5,1,none⟩ = some (.int .i64 (rd_T106 C x).f1):=(blk_cell HG_.out 1).trans rfl;have he2 : w3.cell? ⟨g5,2,none⟩ = some (.int .i64 (rd_T106 C x).f2):=(blk_cell HG_.out 2).trans rfl;have he3 : w3.cell? ⟨g5,3,none⟩ = some (.int .i64 (rd_T106 C x).f3.f0):=(blk_cell HG_.out 3).trans rfl;have he4 : w3.cell? ⟨g5,4,none⟩ = some (.int .i64 (rd_T106 C x).f3.f1):=(blk_cell HG_.out 4).trans rfl;have he5 : w3.cell? ⟨g5,5,none⟩ = some (.int .i64 (rd_T106 C x).f3.f2):=(blk_cell HG_.out 5).trans rfl;have he6 : w3.cell? ⟨g5,6,none⟩ = some (.int .i64 (rd_T106 C x).f3.f3):=(blk_cell HG_.out 6).trans rfl;have he7 : w3.cell? ⟨g5,7,none⟩ = some (.int .i64 (rd_T106 C x).f3.f4):=(blk_cell HG_.out 7).trans rfl;have he8 : w3.cell? ⟨g5,8,none⟩ = some (.int .i64 (rd_T106 C x).f3.f5):=(blk_cell HG_.out 8).trans rfl;have he9 : w3.cell? ⟨g5,9,none⟩ = some (.int .i64 (rd_T106 C x).f3.f6):=(blk_cell HG_.out 9).trans rfl;clear hk0 hk1 hk2 hk3 hk4 hk5;have hk0 : w3.cell? ⟨g1,0,none⟩ = some (.int .i64 id):=(blk_cell (blkC (below_step HL.out HP.out) HK.out) 0).trans rfl;have hk1 : w3.cell? ⟨g1,1,none⟩ = some (.int .i64 num):=(blk_cell (blkC (below_step HL.out HP.out) HK.out) 1).trans rfl;have hk2 : w3.cell? ⟨g1,2,none⟩ = some (.slice A2 W.length c2):=(blk_cell (blkC (below_step HL.out HP.out) HK.out) 2).trans rfl;have hk3 : w3.cell? ⟨g1,3,none⟩ = some (.slice (some ad) C.length c3):=(blk_cell (blkC (below_step HL.out HP.out) HK.out) 3).trans rfl;have hk4 : w3.cell? ⟨g1,4,none⟩ = some (.slice A4 S.length c4):=(blk_cell (blkC (below_step HL.out HP.out) HK.out) 4).trans rfl;have hk5 : w3.cell? ⟨g1,5,none⟩ = some (.slice A5 M.length c5):=(blk_cell (blkC (below_step HL.out HP.out) HK.out) 5).trans rfl)|(go_at_call 73;refine (impl_giverOk.calls _ _ _ (giverOk_rng _)).mono ?_;rintro e w_ ⟨rfl,⟨nd_,rfl⟩⟩)|(go_at_call 75;refine (impl_madeOk.calls _ _ _ (madeOk_rng _)).mono ?_;rintro e w_ ⟨rfl,⟨nd_,rfl⟩⟩)|(go_at_call 68;refine (impl_timeOk.calls _ _ _ (timeOk_rng _)).mono ?_;rintro e w_ ⟨rfl,⟨nd_,rfl⟩⟩)|(go_at_call 22;refine (impl_SealOk.calls _ _ _ _ _ _ _ _ _ rfl).mono ?_;rintro e w5 ⟨rfl,hb_⟩; have mm_:=Aside0.mk (below_step z27x4 hb_);clear HP hb_;have HP:=mm_;clear mm_)|(go_at_call 74;have z_:=HLY;refine (credYes.calls g1 _ _ _ _ _ (some ad) c3 C x _ p0 hlt HLY.out (blkC (below_step HL.out z27x4) HK.out) (Kd.C_below (Kd.C_below (Kd.C_below HR3.out.1 HB.out) HL.out) z27x4)).mono ?_;rintro e w4 ⟨rfl,hb_⟩; have mm_:=Aside0.mk (below_step z27x4 hb_);have mg_:=Aside0.mk (blkC hb_ z27x5);clear HP HG_ he0 he1 he2 he3 he4 he5 he6 he7 he8 he9 hk0 hk1 hk2 hk3 hk4 hk5;have HP:=mm_;have HG_:=mg_;clear mm_ mg_ hb_;have he0 : w4.cell? ⟨g5,0,none⟩ = some (.int .i64 (rd_T106 C x).f0):=(blk_cell HG_.out 0).trans rfl;have he1 : w4.cell? ⟨g5,1,none⟩ = some (.int .i64 (rd_T106 C x).f1):=(blk_cell HG_.out 1).trans rfl;have he2 : w4.cell? ⟨g5,2,none⟩ = some (.int .i64 (rd_T106 C x).f2):=(blk_cell HG_.out 2).trans rfl;have he3 : w4.cell? ⟨g5,3,none⟩ = some (.int .i64 (rd_T106 C x).f3.f0):=(blk_cell HG_.out 3).trans rfl;have he4 : w4.cell? ⟨g5,4,none⟩ = some (.int .i64 (rd_T106 C x).f3.f1):=(blk_cell HG_.out 4).trans rfl;have he5 : w4.cell? ⟨g5,5,none⟩ = some (.int .i64 (rd_T106 C x).f3.f2):=(blk_cell HG_.out 5).trans rfl;have he6 : w4.cell? ⟨g5,6,none⟩ = some (.int .i64 (rd_T106 C x).f3.f3):=(blk_cell HG_.out 6).trans rfl;have he7 : w4.cell? ⟨g5,7,none⟩ = some (.int .i64 (rd_T106 C x).f3.f4):=(blk_cell HG_.out 7).trans rfl;have he8 : w4.cell? ⟨g5,8,none⟩ = some (.int .i64 (rd_T106 C x).f3.f5):=(blk_cell HG_.out 8).trans rfl;have he9 : w4.cell? ⟨g5,9,none⟩ = some (.int .i64 (rd_T106 C x).f3.f6):=(blk_cell HG_.out 9).trans rfl)|(go_at_call 74;have z_:=HLN;refine (credNo.calls g1 _ _ _ _ _ (some ad) c3 C x _ p0 hlt HLN.out (blkC (below_step HL.out z27x4) HK.out) (Kd.C_below (Kd.C_below (Kd.C_below HR3.out.1 HB.out) HL.out) z27x4)).mono ?_;rintro e w4 ⟨⟨r,hne,rfl⟩,hb_⟩; have mm_:=Aside0.mk (below_step z27x4 hb_);have mg_:=Aside0.mk (blkC hb_ z27x5);clear HP HG_ he0 he1 he2 he3 he4 he5 he6 he7 he8 he9 hk0 hk1 hk2 hk3 hk4 hk5;have HP:=mm_;have HG_:=mg_;clear mm_ mg_ hb_;have qa : (r == x) = false:=beq_eq_false_iff_ne.2 hne;have qe : (r != x) = true:=(by rw [bne,qa] <;> rfl);have qd : decide (r = x) = false:=decide_eq_false hne;have he0 : w4.cell? ⟨g5,0,none⟩ = some (.int .i64 (rd_T106 C x).f0):=(blk_cell HG_.out 0).trans rfl;have he1 : w4.cell? ⟨g5,1,none⟩ = some (.int .i64 (rd_T106 C x).f1):=(blk_cell HG_.out 1).trans rfl;have he2 : w4.cell? ⟨g5,2,none⟩ = some (.int .i64 (rd_T106 C x).f2):=(blk_cell HG_.out 2).trans rfl;have he3 : w4.cell? ⟨g5,3,none⟩ = some (.int .i64 (rd_T106 C x).f3.f0):=(blk_cell HG_.out 3).trans rfl;have he4 : w4.cell? ⟨g5,4,none⟩ = some (.int .i64 (rd_T106 C x).f3.f1):=(blk_cell HG_.out 4).trans rfl;have he5 : w4.cell? ⟨g5,5,none⟩ = some (.int .i64 (rd_T106 C x).f3.f2):=(blk_cell HG_.out 5).trans rfl;have he6 : w4.cell? ⟨g5,6,none⟩ = some (.int .i64 (rd_T106 C x).f3.f3):=(blk_cell HG_.out 6).trans rfl;have he7 : w4.cell? ⟨g5,7,none⟩ = some (.int .i64 (rd_T106 C x).f3.f4):=(blk_cell HG_.out 7).trans rfl;have he8 : w4.cell? ⟨g5,8,none⟩ = some (.int .i64 (rd_T106 C x).f3.f5):=(blk_cell HG_.out 8).trans rfl;have he9 : w4.cell? ⟨g5,9,none⟩ = some (.int .i64 (rd_T106 C x).f3.f6):=(blk_cell HG_.out 9).trans rfl))
            go_ret
            exact ⟨congrArg _ (congrArg _ (clientB_no (fun q=>HG0.out (by have h_:=q.2.2.2.1 x.toNat (by omega);rwa [Int.toNat_of_nonneg p0] at h_)))),below_step HB.out (below_step HL.out z27x4)⟩
        have HG0:=Aside0.mk hg
        obtain ⟨h1,hY,h3,h4,h5⟩:=hg
        try have HLY:=Aside0.mk hY
        try have HLN:=Aside0.mk hN
        try unfold tickOk at h5
        go_wp2_with (first|((with_reducible refine gate_dst (N:=7) rfl ?_);refine box_event ?hg (N:=7) ?hd (cs:=#[.int .i64 0,.int .i64 0,.int .i64 0,.int .i64 0,.int .i64 0,.int .i64 0,.int .i64 0,.int .i64 0,.int .i64 0,.int .i64 0]) (t:=106) ?hr ?_;(case hd=>rfl);(case hg=>rfl);(case hr=>first|(go_simp;done)|(go_simp;rfl));intro g5 hg_ w2 hbox_ hb_;have HG_:=Aside0.mk hbox_;have HG:=Aside0.mk (show wr.heap.size ≤ g5 from by rw [hg_];exact Nat.le_refl _);have HP:=Aside0.mk (below_step z27x0 hb_);have hz0 : w2.cell? ⟨g5,0,none⟩ = some (.int .i64 0):=(blk_cell HG_.out 0).trans rfl;have hz1 : w2.cell? ⟨g5,1,none⟩ = some (.int .i64 0):=(blk_cell HG_.out 1).trans rfl;have hz2 : w2.cell? ⟨g5,2,none⟩ = some (.int .i64 0):=(blk_cell HG_.out 2).trans rfl;have hz3 : w2.cell? ⟨g5,3,none⟩ = some (.int .i64 0):=(blk_cell HG_.out 3).trans rfl;have hz4 : w2.cell? ⟨g5,4,none⟩ = some (.int .i64 0):=(blk_cell HG_.out 4).trans rfl;have hz5 : w2.cell? ⟨g5,5,none⟩ = some (.int .i64 0):=(blk_cell HG_.out 5).trans rfl;have hz6 : w2.cell? ⟨g5,6,none⟩ = some (.int .i64 0):=(blk_cell HG_.out 6).trans rfl;have hz7 : w2.cell? ⟨g5,7,none⟩ = some (.int .i64 0):=(blk_cell HG_.out 7).trans rfl;have hz8 : w2.cell? ⟨g5,8,none⟩ = some (.int .i64 0):=(blk_cell HG_.out 8).trans rfl;have hz9 : w2.cell? ⟨g5,9,none⟩ = some (.int .i64 0):=(blk_cell HG_.out 9).trans rfl;have hf0:=blk_frozen HG_.out 0;have hf1:=blk_frozen HG_.out 1;have hf2:=blk_frozen HG_.out 2;have hf3:=blk_frozen HG_.out 3;have hf4:=blk_frozen HG_.out 4;have hf5:=blk_frozen HG_.out 5;have hf6:=blk_frozen HG_.out 6;have hf7:=blk_frozen HG_.out 7;have hf8:=blk_frozen HG_.out 8;have hf9:=blk_frozen HG_.out 9;clear hb_ hbox_ hg_)|((with_reducible refine gate_store (t:=106) (p:=7) rfl ?_);refine store_event (t:=106) (p:=7) (v:=.tmp 53) (w1:=((((((((((w2.setCell ⟨g5,0,none⟩ (.int .i64 (rd_T106 C x).f0)).setCell ⟨g5,1,none⟩ (.int .i64 (rd_T106 C x).f1)).setCell ⟨g5,2,none⟩ (.int .i64 (rd_T106 C x).f2)).setCell ⟨g5,3,none⟩ (.int .i64 (rd_T106 C x).f3.f0)).setCell ⟨g5,4,none⟩ (.int .i64 (rd_T106 C x).f3.f1)).setCell ⟨g5,5,none⟩ (.int .i64 (rd_T106 C x).f3.f2)).setCell ⟨g5,6,none⟩ (.int .i64 (rd_T106 C x).f3.f3)).setCell ⟨g5,7,none⟩ (.int .i64 (rd_T106 C x).f3.f4)).setCell ⟨g5,8,none⟩ (.int .i64 (rd_T106 C x).f3.f5)).setCell ⟨g5,9,none⟩ (.int .i64 (rd_T106 C x).f3.f6))) ?hg ?ho ?hn ?hr ?_;(case ho=>rfl);(case hg=>rfl);(case hn=>rfl);(case hr=>first|(go_simp;done)|(go_simp;rfl));intro w3 hw_;have mq_:=Aside0.mk (show w3.heap[g5]? = some (.cells #[.int .i64 (rd_T106 C x).f0,.int .i64 (rd_T106 C x).f1,.int .i64 (rd_T106 C x).f2,.int .i64 (rd_T106 C x).f3.f0,.int .i64 (rd_T106 C x).f3.f1,.int .i64 (rd_T106 C x).f3.f2,.int .i64 (rd_T106 C x).f3.f3,.int .i64 (rd_T106 C x).f3.f4,.int .i64 (rd_T106 C x).f3.f5,.int .i64 (rd_T106 C x).f3.f6] 106 (0,0)) from by rw [hw_];exact credBoxPut HG_.out _ _ _ _ _ _ _ _ _ _);have mp_:=Aside0.mk (show Below wr.heap.size wr w3 from by rw [hw_];exact credBoxB HP.out HG.out _ _ _ _ _ _ _ _ _ _);clear hw_ HG_ HP HG hz0 hz1 hz2 hz3 hz4 hz5 hz6 hz7 hz8 hz9 hf0 hf1 hf2 hf3 hf4 hf5 hf6 hf7 hf8 hf9;have HG_:=mq_;have HP:=mp_;clear mq_ mp_;have he0 : w3.cell? ⟨g5,0,none⟩ = some (.int .i64 (rd_T106 C x).f0):=(blk_cell HG_.out 0).trans rfl;have he1 : w3.cell? ⟨g5,1,none⟩ = some (.int .i64 (rd_T106 C x).f1):=(blk_cell HG_.out 1).trans rfl;have he2 : w3.cell? ⟨g5,2,none⟩ = some (.int .i64 (rd_T106 C x).f2):=(blk_cell HG_.out 2).trans rfl;have he3 : w3.cell? ⟨g5,3,none⟩ = some (.int .i64 (rd_T106 C x).f3.f0):=(blk_cell HG_.out 3).trans rfl;have he4 : w3.cell? ⟨g5,4,none⟩ = some (.int .i64 (rd_T106 C x).f3.f1):=(blk_cell HG_.out 4).trans rfl;have he5 : w3.cell? ⟨g5,5,none⟩ = some (.int .i64 (rd_T106 C x).f3.f2):=(blk_cell HG_.out 5).trans rfl;have he6 : w3.cell? ⟨g5,6,none⟩ = some (.int .i64 (rd_T106 C x).f3.f3):=(blk_cell HG_.out 6).trans rfl;have he7 : w3.cell? ⟨g5,7,none⟩ = some (.int .i64 (rd_T106 C x).f3.f4):=(blk_cell HG_.out 7).trans rfl;have he8 : w3.cell? ⟨g5,8,none⟩ = some (.int .i64 (rd_T106 C x).f3.f5):=(blk_cell HG_.out 8).trans rfl;have he9 : w3.cell? ⟨g5,9,none⟩ = some (.int .i64 (rd_T106 C x).f3.f6):=(blk_cell HG_.out 9).trans rfl;clear hk0 hk1 hk2 hk3 hk4 hk5;have hk0 : w3.cell? ⟨g1,0,none⟩ = some (.int .i64 id):=(blk_cell (blkC (below_step HL.out HP.out) HK.out) 0).trans rfl;have hk1 : w3.cell? ⟨g1,1,none⟩ = some (.int .i64 num):=(blk_cell (blkC (below_step HL.out HP.out) HK.out) 1).trans rfl;have hk2 : w3.cell? ⟨g1,2,none⟩ = some (.slice A2 W.length c2):=(blk_cell (blkC (below_step HL.out HP.out) HK.out) 2).trans rfl;have hk3 : w3.cell? ⟨g1,3,none⟩ = some (.slice (some ad) C.length c3):=(blk_cell (blkC (below_step HL.out HP.out) HK.out) 3).trans rfl;have hk4 : w3.cell? ⟨g1,4,none⟩ = some (.slice A4 S.length c4):=(blk_cell (blkC (below_step HL.out HP.out) HK.out) 4).trans rfl;have hk5 : w3.cell? ⟨g1,5,none⟩ = some (.slice A5 M.length c5):=(blk_cell (blkC (below_step HL.out HP.out) HK.out) 5).trans rfl)|(go_at_call 73;refine (impl_giverOk.calls _ _ _ (giverOk_rng _)).mono ?_;rintro e w_ ⟨rfl,⟨nd_,rfl⟩⟩)|(go_at_call 75;refine (impl_madeOk.calls _ _ _ (madeOk_rng _)).mono ?_;rintro e w_ ⟨rfl,⟨nd_,rfl⟩⟩)|(go_at_call 68;refine (impl_timeOk.calls _ _ _ (timeOk_rng _)).mono ?_;rintro e w_ ⟨rfl,⟨nd_,rfl⟩⟩)|(go_at_call 22;refine (impl_SealOk.calls _ _ _ _ _ _ _ _ _ rfl).mono ?_;rintro e w5 ⟨rfl,hb_⟩; have mm_:=Aside0.mk (below_step z27x4 hb_);clear HP hb_;have HP:=mm_;clear mm_)|(go_at_call 74;have z_:=HLY;refine (credYes.calls g1 _ _ _ _ _ (some ad) c3 C x _ p0 hlt HLY.out (blkC (below_step HL.out z27x4) HK.out) (Kd.C_below (Kd.C_below (Kd.C_below HR3.out.1 HB.out) HL.out) z27x4)).mono ?_;rintro e w4 ⟨rfl,hb_⟩; have mm_:=Aside0.mk (below_step z27x4 hb_);have mg_:=Aside0.mk (blkC hb_ z27x5);clear HP HG_ he0 he1 he2 he3 he4 he5 he6 he7 he8 he9 hk0 hk1 hk2 hk3 hk4 hk5;have HP:=mm_;have HG_:=mg_;clear mm_ mg_ hb_;have he0 : w4.cell? ⟨g5,0,none⟩ = some (.int .i64 (rd_T106 C x).f0):=(blk_cell HG_.out 0).trans rfl;have he1 : w4.cell? ⟨g5,1,none⟩ = some (.int .i64 (rd_T106 C x).f1):=(blk_cell HG_.out 1).trans rfl;have he2 : w4.cell? ⟨g5,2,none⟩ = some (.int .i64 (rd_T106 C x).f2):=(blk_cell HG_.out 2).trans rfl;have he3 : w4.cell? ⟨g5,3,none⟩ = some (.int .i64 (rd_T106 C x).f3.f0):=(blk_cell HG_.out 3).trans rfl;have he4 : w4.cell? ⟨g5,4,none⟩ = some (.int .i64 (rd_T106 C x).f3.f1):=(blk_cell HG_.out 4).trans rfl;have he5 : w4.cell? ⟨g5,5,none⟩ = some (.int .i64 (rd_T106 C x).f3.f2):=(blk_cell HG_.out 5).trans rfl;have he6 : w4.cell? ⟨g5,6,none⟩ = some (.int .i64 (rd_T106 C x).f3.f3):=(blk_cell HG_.out 6).trans rfl;have he7 : w4.cell? ⟨g5,7,none⟩ = some (.int .i64 (rd_T106 C x).f3.f4):=(blk_cell HG_.out 7).trans rfl;have he8 : w4.cell? ⟨g5,8,none⟩ = some (.int .i64 (rd_T106 C x).f3.f5):=(blk_cell HG_.out 8).trans rfl;have he9 : w4.cell? ⟨g5,9,none⟩ = some (.int .i64 (rd_T106 C x).f3.f6):=(blk_cell HG_.out 9).trans rfl)|(go_at_call 74;have z_:=HLN;refine (credNo.calls g1 _ _ _ _ _ (some ad) c3 C x _ p0 hlt HLN.out (blkC (below_step HL.out z27x4) HK.out) (Kd.C_below (Kd.C_below (Kd.C_below HR3.out.1 HB.out) HL.out) z27x4)).mono ?_;rintro e w4 ⟨⟨r,hne,rfl⟩,hb_⟩; have mm_:=Aside0.mk (below_step z27x4 hb_);have mg_:=Aside0.mk (blkC hb_ z27x5);clear HP HG_ he0 he1 he2 he3 he4 he5 he6 he7 he8 he9 hk0 hk1 hk2 hk3 hk4 hk5;have HP:=mm_;have HG_:=mg_;clear mm_ mg_ hb_;have qa : (r == x) = false:=beq_eq_false_iff_ne.2 hne;have qe : (r != x) = true:=(by rw [bne,qa] <;> rfl);have qd : decide (r = x) = false:=decide_eq_false hne;have he0 : w4.cell? ⟨g5,0,none⟩ = some (.int .i64 (rd_T106 C x).f0):=(blk_cell HG_.out 0).trans rfl;have he1 : w4.cell? ⟨g5,1,none⟩ = some (.int .i64 (rd_T106 C x).f1):=(blk_cell HG_.out 1).trans rfl;have he2 : w4.cell? ⟨g5,2,none⟩ = some (.int .i64 (rd_T106 C x).f2):=(blk_cell HG_.out 2).trans rfl;have he3 : w4.cell? ⟨g5,3,none⟩ = some (.int .i64 (rd_T106 C x).f3.f0):=(blk_cell HG_.out 3).trans rfl;have he4 : w4.cell? ⟨g5,4,none⟩ = some (.int .i64 (rd_T106 C x).f3.f1):=(blk_cell HG_.out 4).trans rfl;have he5 : w4.cell? ⟨g5,5,none⟩ = some (.int .i64 (rd_T106 C x).f3.f2):=(blk_cell HG_.out 5).trans rfl;have he6 : w4.cell? ⟨g5,6,none⟩ = some (.int .i64 (rd_T106 C x).f3.f3):=(blk_cell HG_.out 6).trans rfl;have he7 : w4.cell? ⟨g5,7,none⟩ = some (.int .i64 (rd_T106 C x).f3.f4):=(blk_cell HG_.out 7).trans rfl;have he8 : w4.cell? ⟨g5,8,none⟩ = some (.int .i64 (rd_T106 C x).f3.f5):=(blk_cell HG_.out 8).trans rfl;have he9 : w4.cell? ⟨g5,9,none⟩ = some (.int .i64 (rd_T106 C x).f3.f6):=(blk_cell HG_.out 9).trans rfl))
        go_roundg (gk - 1)
        case measure=>have:=HX.out.2;omega
        case rel =>
          exact ⟨x + 1,by first|rfl|(simp;done)|(simp [*];done),⟨by have:=HX.out;omega⟩,⟨upto p0 HO.out (by rw [Int.toNat_of_nonneg p0];exact HG0.out)⟩,⟨below_step HL.out z27x4⟩⟩
    have d1 : decide (x < (W.length : Int)) = true:=decide_eq_true hlt
    have p0 : 0 ≤ x:=HX.out.1
    obtain ⟨ad,e0,hx0,hx1⟩:=at_T104 (Kd.C_below (Kd.C_below HR2.out.1 HB.out) HL.out) x p0 hlt
    cases e0
    have hw1 : x + 1 ≤ 9223372036854775807:=by have:=HR2.out.1.2.1;omega
    have hwl : wrap64 (last + 1) = last + 1:=by have:=HLST.out;unfold wrap64;omega
    have qc : IntKind.i64.wrap (last + 1) = last + 1:=(i64_w _).trans hwl
    by_cases hg : wantOk num W x
    case neg =>
      have HG0:=Aside0.mk hg
      rcases pathW hg with h1|⟨h1,h2⟩
      all_goals
        try rw [← HLST.out.1] at h2
        clear hg
        go_wp2_with (first|((with_reducible refine gate_dst (N:=5) rfl ?_);refine box_event ?hg (N:=5) ?hd (cs:=#[.int .i64 0,.int .i64 0]) (t:=104) ?hr ?_;(case hd=>rfl);(case hg=>rfl);(case hr=>first|(go_simp;done)|(go_simp;rfl));intro g5 hg_ w2 hbox_ hb_;have HG_:=Aside0.mk hbox_;have HG:=Aside0.mk (show wr.heap.size ≤ g5 from by rw [hg_];exact Nat.le_refl _);have HP:=Aside0.mk (below_step z27x0 hb_);have hz0 : w2.cell? ⟨g5,0,none⟩ = some (.int .i64 0):=(blk_cell HG_.out 0).trans rfl;have hz1 : w2.cell? ⟨g5,1,none⟩ = some (.int .i64 0):=(blk_cell HG_.out 1).trans rfl;have hf0:=blk_frozen HG_.out 0;have hf1:=blk_frozen HG_.out 1;clear hb_ hbox_ hg_)|((with_reducible refine gate_store (t:=104) (p:=5) rfl ?_);refine store_event (t:=104) (p:=5) (v:=.tmp 28) (w1:=((w2.setCell ⟨g5,0,none⟩ (.int .i64 (rd_T104 W x).f0)).setCell ⟨g5,1,none⟩ (.int .i64 (rd_T104 W x).f1))) ?hg ?ho ?hn ?hr ?_;(case ho=>rfl);(case hg=>rfl);(case hn=>rfl);(case hr=>first|(go_simp;done)|(go_simp;rfl));intro w3 hw_;have mq_:=Aside0.mk (show w3.heap[g5]? = some (.cells #[.int .i64 (rd_T104 W x).f0,.int .i64 (rd_T104 W x).f1] 104 (0,0)) from by rw [hw_];exact wantBoxPut HG_.out _ _);have mp_:=Aside0.mk (show Below wr.heap.size wr w3 from by rw [hw_];exact wantBoxB HP.out HG.out _ _);clear hw_ HG_ HP HG hz0 hz1 hf0 hf1;have HG_:=mq_;have HP:=mp_;clear mq_ mp_;have he0 : w3.cell? ⟨g5,0,none⟩ = some (.int .i64 (rd_T104 W x).f0):=(blk_cell HG_.out 0).trans rfl;have he1 : w3.cell? ⟨g5,1,none⟩ = some (.int .i64 (rd_T104 W x).f1):=(blk_cell HG_.out 1).trans rfl;clear hk0 hk1 hk2 hk3 hk4 hk5;have hk0 : w3.cell? ⟨g1,0,none⟩ = some (.int .i64 id):=(blk_cell (blkC (below_step HL.out HP.out) HK.out) 0).trans rfl;have hk1 : w3.cell? ⟨g1,1,none⟩ = some (.int .i64 num):=(blk_cell (blkC (below_step HL.out HP.out) HK.out) 1).trans rfl;have hk2 : w3.cell? ⟨g1,2,none⟩ = some (.slice (some ad) W.length c2):=(blk_cell (blkC (below_step HL.out HP.out) HK.out) 2).trans rfl;have hk3 : w3.cell? ⟨g1,3,none⟩ = some (.slice A3 C.length c3):=(blk_cell (blkC (below_step HL.out HP.out) HK.out) 3).trans rfl;have hk4 : w3.cell? ⟨g1,4,none⟩ = some (.slice A4 S.length c4):=(blk_cell (blkC (below_step HL.out HP.out) HK.out) 4).trans rfl;have hk5 : w3.cell? ⟨g1,5,none⟩ = some (.slice A5 M.length c5):=(blk_cell (blkC (below_step HL.out HP.out) HK.out) 5).trans rfl)|(go_at_call 73;refine (impl_giverOk.calls _ _ _ (giverOk_rng _)).mono ?_;rintro e w_ ⟨rfl,⟨nd_,rfl⟩⟩)|(go_at_call 72;refine (impl_within.calls _ _ _ _ _ (within_rng _ _ _)).mono ?_;rintro e w_ ⟨rfl,⟨nd_,rfl⟩⟩))
        go_ret
        exact ⟨congrArg _ (congrArg _ (clientB_no (fun q=>HG0.out (by have h_:=q.2.2.1 x.toNat (by omega);rwa [Int.toNat_of_nonneg p0] at h_)))),below_step HB.out (below_step HL.out z27x4)⟩
    have HG0:=Aside0.mk hg
    obtain ⟨h1,h2⟩:=hg
    try rw [← HLST.out.1] at h2
    go_wp2_with (first|((with_reducible refine gate_dst (N:=5) rfl ?_);refine box_event ?hg (N:=5) ?hd (cs:=#[.int .i64 0,.int .i64 0]) (t:=104) ?hr ?_;(case hd=>rfl);(case hg=>rfl);(case hr=>first|(go_simp;done)|(go_simp;rfl));intro g5 hg_ w2 hbox_ hb_;have HG_:=Aside0.mk hbox_;have HG:=Aside0.mk (show wr.heap.size ≤ g5 from by rw [hg_];exact Nat.le_refl _);have HP:=Aside0.mk (below_step z27x0 hb_);have hz0 : w2.cell? ⟨g5,0,none⟩ = some (.int .i64 0):=(blk_cell HG_.out 0).trans rfl;have hz1 : w2.cell? ⟨g5,1,none⟩ = some (.int .i64 0):=(blk_cell HG_.out 1).trans rfl;have hf0:=blk_frozen HG_.out 0;have hf1:=blk_frozen HG_.out 1;clear hb_ hbox_ hg_)|((with_reducible refine gate_store (t:=104) (p:=5) rfl ?_);refine store_event (t:=104) (p:=5) (v:=.tmp 28) (w1:=((w2.setCell ⟨g5,0,none⟩ (.int .i64 (rd_T104 W x).f0)).setCell ⟨g5,1,none⟩ (.int .i64 (rd_T104 W x).f1))) ?hg ?ho ?hn ?hr ?_;(case ho=>rfl);(case hg=>rfl);(case hn=>rfl);(case hr=>first|(go_simp;done)|(go_simp;rfl));intro w3 hw_;have mq_:=Aside0.mk (show w3.heap[g5]? = some (.cells #[.int .i64 (rd_T104 W x).f0,.int .i64 (rd_T104 W x).f1] 104 (0,0)) from by rw [hw_];exact wantBoxPut HG_.out _ _);have mp_:=Aside0.mk (show Below wr.heap.size wr w3 from by rw [hw_];exact wantBoxB HP.out HG.out _ _);clear hw_ HG_ HP HG hz0 hz1 hf0 hf1;have HG_:=mq_;have HP:=mp_;clear mq_ mp_;have he0 : w3.cell? ⟨g5,0,none⟩ = some (.int .i64 (rd_T104 W x).f0):=(blk_cell HG_.out 0).trans rfl;have he1 : w3.cell? ⟨g5,1,none⟩ = some (.int .i64 (rd_T104 W x).f1):=(blk_cell HG_.out 1).trans rfl;clear hk0 hk1 hk2 hk3 hk4 hk5;have hk0 : w3.cell? ⟨g1,0,none⟩ = some (.int .i64 id):=(blk_cell (blkC (below_step HL.out HP.out) HK.out) 0).trans rfl;have hk1 : w3.cell? ⟨g1,1,none⟩ = some (.int .i64 num):=(blk_cell (blkC (below_step HL.out HP.out) HK.out) 1).trans rfl;have hk2 : w3.cell? ⟨g1,2,none⟩ = some (.slice (some ad) W.length c2):=(blk_cell (blkC (below_step HL.out HP.out) HK.out) 2).trans rfl;have hk3 : w3.cell? ⟨g1,3,none⟩ = some (.slice A3 C.length c3):=(blk_cell (blkC (below_step HL.out HP.out) HK.out) 3).trans rfl;have hk4 : w3.cell? ⟨g1,4,none⟩ = some (.slice A4 S.length c4):=(blk_cell (blkC (below_step HL.out HP.out) HK.out) 4).trans rfl;have hk5 : w3.cell? ⟨g1,5,none⟩ = some (.slice A5 M.length c5):=(blk_cell (blkC (below_step HL.out HP.out) HK.out) 5).trans rfl)|(go_at_call 73;refine (impl_giverOk.calls _ _ _ (giverOk_rng _)).mono ?_;rintro e w_ ⟨rfl,⟨nd_,rfl⟩⟩)|(go_at_call 72;refine (impl_within.calls _ _ _ _ _ (within_rng _ _ _)).mono ?_;rintro e w_ ⟨rfl,⟨nd_,rfl⟩⟩))
    go_roundg (gk - 1)
    case measure=>have:=HX.out.2;omega
    case rel =>
      refine ⟨x + 1,(rd_T104 W x).f1,by first|rfl|(simp;done)|(simp [*];done),by first|rfl|(simp;done)|(simp [*];done),⟨?_⟩,⟨by have:=HX.out;omega⟩,⟨upto p0 HO.out (by rw [Int.toNat_of_nonneg p0];exact HG0.out)⟩,⟨below_step HL.out z27x4⟩⟩
      refine ⟨by unfold lastW;rw [if_neg (by omega),show x + 1 - 1 = x by omega],?_⟩
      have h_:=HG0.out.2
      rw [← HLST.out.1] at h_
      unfold rng at h_
      replace h_:=of_decide_eq_true h_
      have:=HLST.out
      have:=HN0.out
      omega

end Go.Proofs.Ytbipicjijbnbbaa.Hp
