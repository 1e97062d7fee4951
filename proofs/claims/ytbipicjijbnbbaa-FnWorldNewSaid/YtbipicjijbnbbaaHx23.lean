-- hp.py
import Derived.Test.YtbipicjijbnbbaaHx0
import Derived.Test.YtbipicjijbnbbaaHx11
import Derived.Test.YtbipicjijbnbbaaHx20
import Derived.Test.YtbipicjijbnbbaaHx22
import Derived.Test.YtbipicjijbnbbaaSl
namespace Go.Proofs.Ytbipicjijbnbbaa.Hp
open Go.RowKit Go.Proofs.YtbipicjijbnbbaaW.PrintWords Go.Proofs.YtbipicjijbnbbaaW.PrintLast Go.Proofs.YtbipicjijbnbbaaW.PrintMore
attribute [local go_sem] max2_int min2_int max_two min_two max_three min_three max_four min_four   -- for this text's walks alone
set_option linter.unusedVariables false
set_option linter.unusedSimpArgs false
-- squeezed by wip/tools/squeeze.py

/-! ### impl_ringOf: function 88 -/
-- IMPORT Derived.Test.YtbipicjijbnbbaaSl
/-- The key in a seal,or 0. -/
def hold (s : S41) : Int:=Go.Proofs.Ytbipicjijbnbbaa.Sl.holds s.f0 s.f1 s.f2 s.f3 s.f4 s.f5 s.f6
theorem hold_is (s : S41) : impl_SealHolds.f s.f0 s.f1 s.f2 s.f3 s.f4 s.f5 s.f6 = some (hold s):=Go.Proofs.Ytbipicjijbnbbaa.Sl.impl_holds _ _ _ _ _ _ _
theorem hold_range (s : S41) : hold s = 0 ∨ (10 ≤ hold s ∧ hold s ≤ 60):=by
  unfold hold Go.Proofs.Ytbipicjijbnbbaa.Sl.holds
  split
  · rename_i h
    rcases Go.Proofs.Ytbipicjijbnbbaa.Sl.ok_kind h with h1|h1|h1|h1
    · rw [h1,Go.Proofs.Ytbipicjijbnbbaa.Sl.ok1] at h
      simp only [decide_eq_true_eq] at h
      rw [if_pos h1];omega
    · rw [h1,Go.Proofs.Ytbipicjijbnbbaa.Sl.ok2] at h
      simp only [decide_eq_true_eq] at h
      rw [if_neg (by omega),if_pos h1];omega
    · rw [if_neg (by omega),if_neg (by omega)];omega
    · rw [if_neg (by omega),if_neg (by omega)];omega
  · omega
/-- The keys that one had,on the ring. -/
def ringKeys (bs : List Bool) : List Int → List Bool
  | []=>bs
  | k :: ks=>ringKeys (if 1 ≤ k ∧ k ≤ 60 then bs.set k.toNat true else bs) ks
/-- One seal: is a new key in it that can be read? -/
def ringHit (bs : List Bool) (s : S41) : Bool:=decide (0 < hold s) && (ringHas bs s.f0 && !(bs.getD (hold s).toNat false))
def ringStep (p : List Bool × Bool) (s : S41) : List Bool × Bool:=if ringHit p.1 s = true then (p.1.set (hold s).toNat true,true) else p
def ringPass (bs : List Bool) (ss : List S41) : List Bool × Bool:=ss.foldl ringStep (bs,false)
def ringFix : Nat → List Bool → List S41 → List Bool
  | 0,bs,_=>bs
  | n + 1,bs,ss=>if (ringPass bs ss).2 = true then ringFix n (ringPass bs ss).1 ss else (ringPass bs ss).1
def ringNew : List Bool:=List.replicate 61 false
/-- Which keys one comes to. -/
def ringF (keys : List Int) (ss : List S41) : List Bool:=ringFix 62 (ringKeys ringNew keys) ss

theorem ringKeys_snoc (ks : List Int) : ∀ (bs : List Bool) (k : Int),ringKeys bs (ks ++ [k]) = (if 1 ≤ k ∧ k ≤ 60 then (ringKeys bs ks).set k.toNat true else ringKeys bs ks):=by
  induction ks with
  | nil=>intro bs k;rfl
  | cons a t ih=>intro bs k;simp only [List.cons_append,ringKeys,ih]
theorem ringKeys_len (ks : List Int) : ∀ (bs : List Bool),(ringKeys bs ks).length = bs.length:=by
  induction ks with
  | nil=>intro bs;rfl
  | cons a t ih=>intro bs;simp only [ringKeys,ih];split <;> simp
theorem ringStep_len (p : List Bool × Bool) (s : S41) : (ringStep p s).1.length = p.1.length:=by unfold ringStep;split <;> simp
theorem take_snoc_rd {α : Type} (l : List α) (d : α) (i : Nat) (h : i < l.length) : l.take (i + 1) = l.take i ++ [l.getD i d]:=by
  rw [List.take_succ_eq_append_getElem h,List.getD_eq_getElem?_getD,List.getElem?_eq_getElem h,Option.getD_some]
/-- How many keys are not there. -/
def lacks (bs : List Bool) : Nat:=bs.count false
theorem lacks_set : ∀ (bs : List Bool) (i : Nat),i < bs.length → bs.getD i false = false → lacks (bs.set i true) + 1 = lacks bs:=by
  intro bs
  induction bs with
  | nil=>intro i h;simp at h
  | cons b bs ih =>
    intro i h hb
    cases i with
    | zero =>
      have hb' : b = false:=by simpa using hb
      subst hb'
      simp [lacks]
    | succ i =>
      have:=ih i (by simpa using h) (by simpa using hb)
      unfold lacks at this ⊢
      rw [List.set_cons_succ,List.count_cons,List.count_cons]
      omega
theorem ringHit_lacks {p : List Bool × Bool} {s : S41} (hl : p.1.length = 61) (h : ringHit p.1 s = true) : lacks (ringStep p s).1 + 1 = lacks p.1:=by
  unfold ringStep
  rw [if_pos h]
  simp only [ringHit,Bool.and_eq_true,decide_eq_true_eq,Bool.not_eq_true'] at h
  have hr:=hold_range s
  exact lacks_set _ _ (by omega) h.2.2
theorem ringFold_lacks (ss : List S41) : ∀ p : List Bool × Bool,p.1.length = 61 → (ss.foldl ringStep p).1.length = 61 ∧ lacks (ss.foldl ringStep p).1 ≤ lacks p.1 ∧ (p.2 = false → (ss.foldl ringStep p).2 = true → lacks (ss.foldl ringStep p).1 < lacks p.1) ∧ (p.2 = true → (ss.foldl ringStep p).2 = true) ∧ ((ss.foldl ringStep p).2 = false → (ss.foldl ringStep p).1 = p.1):=by
  induction ss with
  | nil=>intro p hp;exact ⟨hp,Nat.le_refl _,fun h1 h2=>by simp [h1] at h2,fun h=>h,fun _=>rfl⟩
  | cons s ss ih =>
    intro p hp
    obtain ⟨h1,h2,h3,h4,h5⟩:=ih (ringStep p s) (by rw [ringStep_len];exact hp)
    rw [List.foldl_cons]
    by_cases hh : ringHit p.1 s = true
    · have hl:=ringHit_lacks hp hh
      have hs2 : (ringStep p s).2 = true:=by unfold ringStep;rw [if_pos hh]
      exact ⟨h1,by omega,fun _ _=>by omega,fun _=>h4 hs2,fun h=>by rw [h4 hs2] at h;cases h⟩
    · have hs : ringStep p s = p:=by unfold ringStep;rw [if_neg hh]
      rw [hs] at h1 h2 h3 h4 h5 ⊢
      exact ⟨h1,h2,h3,h4,h5⟩
theorem ringPass_len {bs : List Bool} {ss : List S41} (h : bs.length = 61) : (ringPass bs ss).1.length = 61:=(ringFold_lacks ss (bs,false) h).1
theorem ringPass_less {bs : List Bool} {ss : List S41} (h : bs.length = 61) (hc : (ringPass bs ss).2 = true) : lacks (ringPass bs ss).1 < lacks bs:=(ringFold_lacks ss (bs,false) h).2.2.1 rfl hc
theorem ringPass_take (bs : List Bool) (ss : List S41) (i : Nat) (h : i < ss.length) (z : S41) : ringPass bs (ss.take (i + 1)) = ringStep (ringPass bs (ss.take i)) (ss.getD i z):=by
  unfold ringPass
  rw [take_snoc_rd ss z i h,List.foldl_append];rfl
theorem Ring.set {w : World} {g : Nat} {bs : List Bool} (h : Ring w g bs) (i : Nat) : Ring (w.setCell ⟨g,i,none⟩ (.bool true)) g (bs.set i true) :=
  ⟨blk_put h.blk i (.bool true) (by simp [List.map_set]),by rw [List.length_set];exact h.len⟩
theorem Ring.new (w : World) : Ring (w.alloc (.cells (ringNew.map Value.bool).toArray 164)) w.heap.size ringNew:=⟨by simpa using heap_alloc_new w _,by simp [ringNew]⟩
/-- What is left to do,by rounds: the number of rounds is enough. -/
def RingLeft (n : Nat) (bs : List Bool) (ch : Bool) (ss : List S41) (R : List Bool) : Prop:=bs.length = 61 ∧ (ch = true → lacks bs < n ∧ ringFix n bs ss = R) ∧ (ch = false → bs = R)
theorem RingLeft.next {n : Nat} {bs : List Bool} {ss : List S41} {R : List Bool} (h : RingLeft n bs true ss R) : ∃ m,n = m + 1 ∧ RingLeft m (ringPass bs ss).1 (ringPass bs ss).2 ss R:=by
  obtain ⟨h1,h2,_⟩:=h
  obtain ⟨hl,hf⟩:=h2 rfl
  obtain ⟨m,rfl⟩ : ∃ m,n = m + 1:=⟨n - 1,by omega⟩
  refine ⟨m,rfl,ringPass_len h1,fun hc=>⟨by have:=ringPass_less h1 hc;omega,?_⟩,fun hc=>?_⟩
  · rw [ringFix,if_pos hc] at hf;exact hf
  · rw [ringFix,if_neg (by rw [hc];simp)] at hf;exact hf
theorem lacks_le (bs : List Bool) : lacks bs ≤ bs.length:=List.count_le_length
theorem RingLeft.start (keys : List Int) (ss : List S41) : RingLeft 62 (ringKeys ringNew keys) true ss (ringF keys ss):=by
  have hl : (ringKeys ringNew keys).length = 61:=by rw [ringKeys_len];simp [ringNew]
  exact ⟨hl,fun _=>⟨by have:=lacks_le (ringKeys ringNew keys);omega,rfl⟩,fun h=>by cases h⟩
theorem newCell {w w1 : World} {X : Array Value} {T : TypeId} {v : Value} (hb : Below (w.alloc (.cells X T)).heap.size (w.alloc (.cells X T)) w1) (h : X[0]? = some v) : w1.cell? ⟨w.heap.size,0,none⟩ = some v :=
  (hb.cell (p:=⟨w.heap.size,0,none⟩) (by simp)).trans ((blk_cell (by simpa using heap_alloc_new w (.cells X T)) 0).trans h)
theorem setCell_below {w W : World} {g : Nat} (h : Below w.heap.size w W) (hg : w.heap.size ≤ g) (j : Nat) (v : Value) : Below w.heap.size w (W.setCell ⟨g,j,none⟩ v):=h.setCell hg _
theorem setCell_size {W : World} {a : Addr} {v : Value} : (W.setCell a v).heap.size = W.heap.size:=by simp
set_option maxHeartbeats 16000000 in
set_option maxRecDepth 100000 in
theorem impl_ringOf.calls (A0 : Option Addr) (c0 : Nat) (l0 : List Int) (A1 : Option Addr) (c1 : Nat) (l1 : List S41) (w : World) (hr0 : Kd.C (Kd.int .i64) w A0 l0.length l0) (hr1 : Kd.C k41 w A1 l1.length l1) :
    Calls Try.prog 88 #[.slice A0 l0.length c0,.slice A1 l1.length c1] w fun e w' => (∃ g : Nat,e = .returned (.pointer (some ⟨g,0,none⟩)) ∧ w.heap.size ≤ g ∧ Ring w' g (ringF l0 l1)) ∧ Below w.heap.size w w':=by
  have HL0:=Aside0.mk hr0.2.1
  have HL1:=Aside0.mk hr1.2.1
  have HR0:=Aside0.mk hr0
  have HR1:=Aside0.mk hr1
  clear hr0 hr1
  go_enter Try.func88,Try.ntmps88
  go_wp2_with fail
  go_loopg [16] l0.length (fun kq v16 w' => ∃ (x16 : Int),v16 = .int .i64 x16 ∧ Aside0 (0 ≤ x16 ∧ x16 + kq = l0.length) ∧ Aside0 (Ring w' w.heap.size (ringKeys ringNew (l0.take x16.toNat))) ∧ Aside0 (Below w.heap.size w w'))
  case atStart=>exact ⟨0,by first|rfl|(simp;done)|(simp [*];done),⟨by omega⟩,⟨Ring.new w⟩,⟨below_alloc (Below.refl _ _) _⟩⟩
  case round =>
    obtain ⟨x16,rfl,HX,HG,HB⟩:=hrel
    by_cases hlt : x16 < (l0.length : Int)
    · have d1 : decide (x16 < (l0.length : Int)) = true:=decide_eq_true hlt
      have p0 : 0 ≤ x16:=HX.out.1
      obtain ⟨ad,e0,hx0⟩:=Kd.at_int HR0.out x16 p0 hlt
      cases e0
      replace hx0:=(HB.out.cell (World.block_lt_of_cell? w _ hx0)).trans hx0
      have hw1 : x16 + 1 ≤ 9223372036854775807:=by have:=HL0.out;omega
      have HT:=Aside0.mk (show ringKeys ringNew (l0.take (x16 + 1).toNat) = (if 1 ≤ rd l0 x16 ∧ rd l0 x16 ≤ 60 then (ringKeys ringNew (l0.take x16.toNat)).set (rd l0 x16).toNat true else ringKeys ringNew (l0.take x16.toNat)) by
        rw [show (x16 + 1).toNat = x16.toNat + 1 from by omega,take_snoc_rd l0 0 x16.toNat (by omega),ringKeys_snoc];rfl)
      by_cases hk : 1 ≤ rd l0 x16 ∧ rd l0 x16 ≤ 60
      rotate_left
      · have HW:=Aside0.mk ((within_is (rd l0 x16) 1 60).trans (by rw [decide_eq_false hk]))
        have HT':=Aside0.mk (HT.out.trans (if_neg hk))
        clear hk HT
        go_wp2_with (first|(go_at_call 72;refine (impl_within.calls _ _ _ false _ HW.out).mono ?_;rintro e w1 ⟨rfl,hd⟩; obtain ⟨m,rfl⟩:=hd.out;clear hd))
        go_roundg (gk - 1)
        case measure=>have:=HX.out.2;omega
        case rel =>
          refine ⟨x16 + 1,by first|rfl|(simp;done)|(simp [*];done),⟨by have:=HX.out;omega⟩,⟨?_⟩,⟨pw_below_drewN HB.out m⟩⟩
          rw [HT'.out];exact ⟨HG.out.blk,HG.out.len⟩
      have HW:=Aside0.mk ((within_is (rd l0 x16) 1 60).trans (by rw [decide_eq_true hk]))
      have HT':=Aside0.mk (HT.out.trans (if_pos hk))
      have k0 : 0 ≤ rd l0 x16:=by omega
      have k1 : rd l0 x16 < 61:=by omega
      clear hk HT
      go_wp2_with (first|(go_at_call 72;refine (impl_within.calls _ _ _ true _ HW.out).mono ?_;rintro e w1 ⟨rfl,hd⟩; obtain ⟨m,rfl⟩:=hd.out;clear hd;have hc1:=(HG.out.cell (rd l0 x16).toNat (by omega));have hf1:=(HG.out.frozen (rd l0 x16).toNat)))
      go_roundg (gk - 1)
      case measure=>have:=HX.out.2;omega
      case rel =>
        refine ⟨x16 + 1,by first|rfl|(simp;done)|(simp [*];done),⟨by have:=HX.out;omega⟩,⟨?_⟩,⟨?_⟩⟩
        · rw [HT'.out];exact (show Ring (wr.drewN m) _ _ from ⟨HG.out.blk,HG.out.len⟩).set _
        · exact setCell_below (pw_below_drewN HB.out m) (Nat.le_refl _) _ _
    · have d1 : decide (x16 < (l0.length : Int)) = false:=decide_eq_false hlt
      have HG':=Aside0.mk (show Ring wr w.heap.size (ringKeys ringNew l0) by have h:=HG.out;rwa [List.take_of_length_le (by have:=HX.out;omega)] at h)
      clear HG HX hlt
      obtain ⟨wo,rfl⟩ : ∃ wo : World,wo = wr:=⟨_,rfl⟩
      go_wp2_with fail
      go_loopg [8] 62 (fun kq v8 w' => ∃ (bs : List Bool) (ch : Bool),v8 = .bool ch ∧ Aside0 (RingLeft kq bs ch l1 (ringF l0 l1)) ∧ Aside0 (Ring w' w.heap.size bs) ∧ Aside0 (Below w.heap.size w w'))
      case atStart=>exact ⟨_,true,rfl,⟨RingLeft.start l0 l1⟩,HG',HB⟩
      case round =>
        clear HG' HB
        obtain ⟨bs,ch,rfl,HLF,HG,HB⟩:=hrel
        cases ch with
        | false =>
          have HE:=Aside0.mk (HLF.out.2.2 rfl)
          clear HLF
          go_wp2_with fail
          go_ret
          exact ⟨⟨w.heap.size,rfl,Nat.le_refl _,HE.out ▸ HG.out⟩,HB.out⟩
        | true =>
          obtain ⟨m,rfl,hN⟩:=HLF.out.next
          have HN:=Aside0.mk hN
          clear hN HLF
          obtain ⟨wo,rfl⟩ : ∃ wo : World,wo = wr:=⟨_,rfl⟩
          go_wp2_with fail
          go_loopg [8,30] l1.length (fun kq v8 v30 w' => ∃ (x30 : Int) (ch : Bool) (cs : List Bool),v30 = .int .i64 x30 ∧ v8 = .bool ch ∧ Aside0 (0 ≤ x30 ∧ x30 + kq = l1.length) ∧ Aside0 (ringPass bs (l1.take x30.toNat) = (cs,ch)) ∧ Aside0 (Ring w' w.heap.size cs) ∧ Aside0 (Below w.heap.size w w'))
          case atStart=>exact ⟨0,false,bs,by first|rfl|(simp;done)|(simp [*];done),rfl,⟨by omega⟩,⟨rfl⟩,HG,HB⟩
          case round =>
            clear HG HB
            obtain ⟨x30,ch,cs,rfl,rfl,HX,HP,HG,HB⟩:=hrel
            by_cases hlt : x30 < (l1.length : Int)
            rotate_left
            · have d1 : decide (x30 < (l1.length : Int)) = false:=decide_eq_false hlt
              have HP':=Aside0.mk (show ringPass bs l1 = (cs,ch) by have h:=HP.out;rwa [List.take_of_length_le (by have:=HX.out;omega)] at h)
              clear HP HX hlt
              go_wp2_with fail
              go_roundg m
              case measure=>omega
              case rel=>exact ⟨cs,ch,rfl,⟨by have h:=HN.out;rw [HP'.out] at h;exact h⟩,HG,HB⟩
            have d1 : decide (x30 < (l1.length : Int)) = true:=decide_eq_true hlt
            have p0 : 0 ≤ x30:=HX.out.1
            obtain ⟨ad,e0,hx0,hx1,hx2,hx3,hx4,hx5,hx6⟩:=at_T41 HR1.out x30 p0 hlt
            cases e0
            replace hx0:=(HB.out.cell (World.block_lt_of_cell? w _ hx0)).trans hx0
            replace hx1:=(HB.out.cell (World.block_lt_of_cell? w _ hx1)).trans hx1
            replace hx2:=(HB.out.cell (World.block_lt_of_cell? w _ hx2)).trans hx2
            replace hx3:=(HB.out.cell (World.block_lt_of_cell? w _ hx3)).trans hx3
            replace hx4:=(HB.out.cell (World.block_lt_of_cell? w _ hx4)).trans hx4
            replace hx5:=(HB.out.cell (World.block_lt_of_cell? w _ hx5)).trans hx5
            replace hx6:=(HB.out.cell (World.block_lt_of_cell? w _ hx6)).trans hx6
            have hw1 : x30 + 1 ≤ 9223372036854775807:=by have:=HL1.out;omega
            have HT:=Aside0.mk (show ringPass bs (l1.take (x30 + 1).toNat) = ringStep (cs,ch) (rd_T41 l1 x30) by
              rw [show (x30 + 1).toNat = x30.toNat + 1 from by omega,ringPass_take bs l1 x30.toNat (by omega) z41,HP.out];rfl)
            clear HP
            generalize rd_T41 l1 x30 = s at *
            have HH:=Aside0.mk (hold_is s)
            have HR:=Aside0.mk (hold_range s)
            have HRS:=Aside0.mk (show ringStep (cs,ch) s = if (decide (0 < hold s) && (ringHas cs s.f0 && !(cs.getD (hold s).toNat false))) = true then (cs.set (hold s).toNat true,true) else (cs,ch) from rfl)
            generalize hold s = t at *
            rcases HR.out with rfl|⟨t10,t60⟩
            · have HS:=Aside0.mk (HRS.out.trans (if_neg (by simp)))
              clear HRS HR
              go_wp2_with (first|(go_at_call 143;refine (impl_SealHolds.calls _ _ _ _ _ _ _ 0 _ HH.out).mono ?_;rintro e w1 ⟨rfl,hb1⟩))
              go_roundg (gk - 1)
              case measure=>have:=HX.out.2;omega
              case rel=>exact ⟨x30 + 1,ch,cs,by first|rfl|(simp;done)|(simp [*];done),rfl,⟨by have:=HX.out;omega⟩,⟨HT.out.trans HS.out⟩,⟨(HG.out.below (below_alloc (Below.refl _ _) _)).below hb1⟩,⟨below_then (below_alloc HB.out _) (below_alloc HB.out _).size hb1⟩⟩
            · have t0 : 0 ≤ t:=by omega
              have t1 : t < 61:=by omega
              have tp : decide (0 < t) = true:=decide_eq_true (by omega)
              cases hh : ringHas cs s.f0 with
              | false =>
                have HS:=Aside0.mk (HRS.out.trans (if_neg (by rw [hh];simp)))
                have Hh:=Aside0.mk hh
                clear HRS hh
                go_wp2_with (first|(go_at_call 143;refine (impl_SealHolds.calls _ _ _ _ _ _ _ t _ HH.out).mono ?_;rintro e w1 ⟨rfl,hb1⟩; have hk1:=newCell hb1 rfl;have HG1:=Aside0.mk ((HG.out.below (below_alloc (Below.refl _ _) _)).below hb1);have HB1:=Aside0.mk (below_then (below_alloc HB.out _) (below_alloc HB.out _).size hb1);clear hb1)|(go_at_call 91;refine (impl_ring_has.calls _ _ _ _ HG1.out).mono ?_;rintro e w2 ⟨rfl,hd⟩; rw [Hh.out];obtain ⟨m2,rfl⟩:=hd.out;clear hd))
                go_roundg (gk - 1)
                case measure=>have:=HX.out.2;omega
                case rel=>exact ⟨x30 + 1,ch,cs,by first|rfl|(simp;done)|(simp [*];done),rfl,⟨by have:=HX.out;omega⟩,⟨HT.out.trans HS.out⟩,⟨⟨HG1.out.blk,HG1.out.len⟩⟩,⟨pw_below_drewN HB1.out _⟩⟩
              | true =>
                cases hd0 : cs.getD t.toNat false with
                | true =>
                  have HS:=Aside0.mk (HRS.out.trans (if_neg (by rw [hd0];simp)))
                  have Hh:=Aside0.mk hh
                  have Hd:=Aside0.mk hd0
                  clear HRS hh hd0
                  go_wp2_with (first|(go_at_call 143;refine (impl_SealHolds.calls _ _ _ _ _ _ _ t _ HH.out).mono ?_;rintro e w1 ⟨rfl,hb1⟩; have hk1:=newCell hb1 rfl;have HG1:=Aside0.mk ((HG.out.below (below_alloc (Below.refl _ _) _)).below hb1);have HB1:=Aside0.mk (below_then (below_alloc HB.out _) (below_alloc HB.out _).size hb1);clear hb1)|(go_at_call 91;refine (impl_ring_has.calls _ _ _ _ HG1.out).mono ?_;rintro e w2 ⟨rfl,hd⟩; rw [Hh.out];obtain ⟨m2,rfl⟩:=hd.out;clear hd;have hc2:=(HG1.out.cell t.toNat (by omega)).trans (by rw [Hd.out])))
                  go_roundg (gk - 1)
                  case measure=>have:=HX.out.2;omega
                  case rel=>exact ⟨x30 + 1,ch,cs,by first|rfl|(simp;done)|(simp [*];done),rfl,⟨by have:=HX.out;omega⟩,⟨HT.out.trans HS.out⟩,⟨⟨HG1.out.blk,HG1.out.len⟩⟩,⟨pw_below_drewN HB1.out _⟩⟩
                | false =>
                  have HS:=Aside0.mk (HRS.out.trans (if_pos (by rw [hh,hd0,tp];rfl)))
                  have Hh:=Aside0.mk hh
                  have Hd:=Aside0.mk hd0
                  clear HRS hh hd0
                  go_wp2_with (first|(go_at_call 143;refine (impl_SealHolds.calls _ _ _ _ _ _ _ t _ HH.out).mono ?_;rintro e w1 ⟨rfl,hb1⟩; have hk1:=newCell hb1 rfl;have HG1:=Aside0.mk ((HG.out.below (below_alloc (Below.refl _ _) _)).below hb1);have HB1:=Aside0.mk (below_then (below_alloc HB.out _) (below_alloc HB.out _).size hb1);clear hb1)|(go_at_call 91;refine (impl_ring_has.calls _ _ _ _ HG1.out).mono ?_;rintro e w2 ⟨rfl,hd⟩; rw [Hh.out];obtain ⟨m2,rfl⟩:=hd.out;clear hd;have hc2:=(HG1.out.cell t.toNat (by omega)).trans (by rw [Hd.out]);have hf2:=HG1.out.frozen t.toNat))
                  go_roundg (gk - 1)
                  case measure=>have:=HX.out.2;omega
                  case rel=>exact ⟨x30 + 1,true,_,by first|rfl|(simp;done)|(simp [*];done),rfl,⟨by have:=HX.out;omega⟩,⟨HT.out.trans HS.out⟩,⟨(show Ring (w1.drewN m2) _ _ from ⟨HG1.out.blk,HG1.out.len⟩).set _⟩,⟨setCell_below (pw_below_drewN HB1.out _) (Nat.le_refl _) _ _⟩⟩

end Go.Proofs.Ytbipicjijbnbbaa.Hp
