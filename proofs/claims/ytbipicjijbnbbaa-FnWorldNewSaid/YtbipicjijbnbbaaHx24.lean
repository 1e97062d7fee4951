-- hp.py
import Derived.Test.YtbipicjijbnbbaaHx0
import Derived.Test.YtbipicjijbnbbaaHx20
import Derived.Test.YtbipicjijbnbbaaHx23
namespace Go.Proofs.Ytbipicjijbnbbaa.Hp
open Go.RowKit Go.Proofs.YtbipicjijbnbbaaW.PrintWords Go.Proofs.YtbipicjijbnbbaaW.PrintLast Go.Proofs.YtbipicjijbnbbaaW.PrintMore
attribute [local go_sem] max2_int min2_int max_two min_two max_three min_three max_four min_four   -- for this text's walks alone
set_option linter.unusedVariables false
set_option linter.unusedSimpArgs false
-- squeezed by wip/tools/squeeze.py

/-! ### impl_KnowKeys: function 27 -/
/-- The keys on a ring from place i on,d places long. -/
def keysFrom (bs : List Bool) (i d : Nat) : List Int:=((List.range' i d).filter fun j=>bs.getD j false).map fun (j : Nat)=>(j : Int)
/-- The keys on a ring,ascending. -/
def keysOf (bs : List Bool) : List Int:=keysFrom bs 0 bs.length
theorem keysFrom_len (bs : List Bool) (i d : Nat) : (keysFrom bs i d).length ≤ d:=by
  unfold keysFrom
  rw [List.length_map]
  exact Nat.le_trans (List.length_filter_le _ _) (by simp)
theorem keysFrom_snoc (bs : List Bool) (d : Nat) : keysFrom bs 0 (d + 1) = keysFrom bs 0 d ++ (if bs.getD d false = true then [(d : Int)] else []):=by
  unfold keysFrom
  rw [List.range'_1_concat,List.filter_append,List.map_append]
  congr 1
  by_cases h : bs.getD d false = true
  · have h' : bs[d]?.getD false = true:=by simpa [List.getD_eq_getElem?_getD] using h
    simp [h',List.filter_cons]
  · have h' : bs[d]?.getD false = false:=by simpa [List.getD_eq_getElem?_getD] using h
    simp [h',List.filter_cons]
/-- Behind an append to a row of numbers a ring stands as it stood. -/
theorem ringGrown {w w1 : World} {base g : Nat} {bs : List Bool} {ok : Nat → Prop} {v : Value} {xs : List Int} {m : Nat} (h : Ring w g bs) (ho : Kd.R (Kd.int .i64) 3 w base ok v xs) (hg : (w.drewN m).grownBy w1 v.ownBlock) : Ring w1 g bs:=by
  refine ⟨(hg.block g (blk_lt h.blk) fun e=>?_).trans h.blk,h.len⟩
  exact Kd.R_ne ho h.blk (by decide) e
def impl_KnowKeys.f (l0 : List Int) (l1 : List S41) : Option (List Int):=some (keysOf (ringF l0 l1))
theorem rMade (w : World) (c : Nat) (hc : c ≤ maxLen) (ok : Nat → Prop) (hok : ok w.heap.size) : Kd.R (Kd.int .i64) 3 (w.alloc (.cells (Array.replicate c (.int .i64 0)) 3)) w.heap.size ok (.slice (some ⟨w.heap.size,0,none⟩) 0 c) []:=by
  refine ⟨fun k hk=>?_,[],⟨rfl,.inr ⟨w.heap.size,c,_,rfl,Nat.le_refl _,by simpa using heap_alloc_new w _,Nat.zero_le _,hc,?_,?_⟩⟩,Reps.none _ _⟩
  · have : w.heap.size = k:=by simpa [Value.ownBlock] using hk
    exact this ▸ hok
  · show _ = c * 1;simp
  · simp
/-- A row of one's own,cut to its length: what is read there,and where it lies. -/
theorem vCut {α : Type} {d : Kd α} {e base : Nat} {w : World} {ok : Nat → Prop} {A : Option Addr} {n c : Nat} {xs : List α} (h : Kd.R d e w base ok (.slice A n c) xs) : Kd.V d e w base (fun k=>base ≤ k) (.slice A n n) xs:=by
  have h':=Kd.R_mono (Kd.R_bound h) (ok':=fun k=>base ≤ k) (fun k hk=>hk.2.1)
  obtain ⟨A',c',he,hl,hr⟩:=Kd.R_reads h
  injection he with h1 h2 h3
  subst h1 h2
  refine ⟨A,xs.length,rfl,Nat.le_refl _,fun W' hW' => ?_⟩
  obtain ⟨A2,c2,he2,_,hr2⟩:=Kd.R_reads (Kd.R_step h' hW')
  injection he2 with e1 _ _
  subst e1
  exact hr2
set_option maxHeartbeats 16000000 in
set_option maxRecDepth 100000 in
theorem impl_KnowKeys.calls (A0 : Option Addr) (c0 : Nat) (l0 : List Int) (A1 : Option Addr) (c1 : Nat) (l1 : List S41) (r : List Int) (w : World) (hr0 : Kd.C (Kd.int .i64) w A0 l0.length l0) (_hc0 : l0.length ≤ c0) (hr1 : Kd.C k41 w A1 l1.length l1) (_hc1 : l1.length ≤ c1) (h : impl_KnowKeys.f l0 l1 = some r) :
    Calls Try.prog 27 #[.slice A0 l0.length c0,.slice A1 l1.length c1] w fun e w' => ∃ v0_ : Value,e = .returned (v0_) ∧ Kd.V (Kd.int .i64) 3 w' w.heap.size (fun k_=>(w.heap.size ≤ k_)) v0_ r ∧ Below w.heap.size w w':=by
  obtain rfl : keysOf (ringF l0 l1) = r:=Option.some.inj h
  clear h
  obtain ⟨bs,hF⟩ : ∃ bs,ringF l0 l1 = bs:=⟨_,rfl⟩
  rw [hF]
  have hmk : ∀ w : World,(Instr.makeSlice 46 (.int .i64 0) (.int .i64 60)).run Try.prog w = .ok (.slice (some ⟨w.heap.size,0,none⟩) 0 60) (w.alloc (.cells (Array.replicate 60 (.int .i64 0)) 3)):=fun _=>by kernel_rfl
  go_enter Try.func27,Try.ntmps27
  go_wp2_with fail
  refine (impl_ringOf.calls _ _ _ _ _ _ _ (Kd.C_alloc hr0 _) (Kd.C_alloc hr1 _)).mono ?_
  rintro e w1 ⟨⟨g,rfl,hg,hR⟩,hb1⟩
  rw [hF] at hR
  clear hF
  have HO:=Aside0.mk (Kd.R_below (rMade w 60 (by decide) (fun _=>True) trivial) hb1)
  have HB:=Aside0.mk (below_then (below_alloc (Below.refl w.heap.size w) _) (by simp) hb1)
  have HL:=Aside0.mk hR.len
  have HG:=Aside0.mk hR
  clear hR hb1 hg hr0 hr1
  go_wp2_with fail
  go_loopg [5,12] 61 (fun kq v5 v12 w' => ∃ (x12 : Int),v12 = .int .i64 x12 ∧ Aside0 (0 ≤ x12 ∧ x12 + kq = 61) ∧ Aside0 (Kd.R (Kd.int .i64) 3 w' w.heap.size (fun _=>True) v5 (keysFrom bs 0 x12.toNat)) ∧ Aside0 (Ring w' g bs) ∧ Aside0 (Below w.heap.size w w'))
  case atStart=>exact ⟨0,by first|rfl|(simp;done)|(simp [*];done),⟨by omega⟩,HO,HG,HB⟩
  case round =>
    clear HO HG HB
    obtain ⟨x12,rfl,HX,HO,HG,HB⟩:=hrel
    by_cases hlt : x12 < 61
    rotate_left
    · have d1 : decide (x12 < 61) = false:=decide_eq_false hlt
      have HO':=Aside0.mk (show Kd.R (Kd.int .i64) 3 wr w.heap.size (fun _=>True) u5 (keysOf bs) by
        have h:=HO.out
        have e : x12.toNat = bs.length:=by have:=HX.out;have:=HL.out;omega
        rw [e] at h
        exact h)
      clear HO
      obtain ⟨Ao,co,eo⟩:=Kd.R_slice HO'.out
      subst eo
      have hle : (keysOf bs).length ≤ co:=by
        obtain ⟨A',c',he,hl',_⟩:=Kd.R_reads HO'.out
        injection he with _ _ h3
        subst h3
        exact hl'
      go_wp2_with fail
      go_ret
      exact ⟨_,rfl,vCut HO'.out,HB.out⟩
    have d1 : decide (x12 < 61) = true:=decide_eq_true hlt
    have p0 : 0 ≤ x12:=HX.out.1
    have hc:=HG.out.cell x12.toNat (by omega)
    have HT:=Aside0.mk (show keysFrom bs 0 (x12 + 1).toNat = keysFrom bs 0 x12.toNat ++ (if bs.getD x12.toNat false = true then [(x12.toNat : Int)] else []) by
      rw [show (x12 + 1).toNat = x12.toNat + 1 from by omega];exact keysFrom_snoc _ _)
    have HQ:=Aside0.mk (keysFrom_len bs 0 x12.toNat)
    cases hb : bs.getD x12.toNat false with
    | true =>
      rw [hb] at hc
      have HT':=Aside0.mk (show keysFrom bs 0 (x12 + 1).toNat = keysFrom bs 0 x12.toNat ++ [x12] by
        rw [HT.out,hb,if_pos rfl,Int.toNat_of_nonneg p0])
      clear HT hb
      generalize keysFrom bs 0 x12.toNat = ys at *
      obtain ⟨Ao,co,eo⟩:=Kd.R_slice HO.out
      subst eo
      go_wp2_with fail
      go_quiet (fail)
      go_wp2_with (first|((with_reducible refine gate_builtin (b:=.append) (xs:=#[.tmp 19,.tmp 21]) rfl ?_);at_builtin;refine Kd.R_append (Kd.int .i64) (w0:=w) w.heap.size rfl (.tmp 19) (.tmp 21) 46 3 (.int .i64 0) 8 rfl Try.underlying46 info3 rfl (by decide) (by omega) _ ys x12 [.int .i64 x12] (fun _=>True) (fun _=>False) rfl rfl ?aP (fun _ hk=>hk.elim) ?aF ?aO ?aB ?aS ?aL ?_;(case aP=>exact rfl);(case aB=>exact (by repeat (first|(with_reducible first|exact HB.out|apply below_alloc|apply pw_below_drewN|apply below_drew1)|exact HB.out)));(case aF=>exact (fun _ _=>trivial));(case aO=>exact (by (with_reducible repeat (first|apply Kd.R_alloc|apply Kd.R_drewN|apply Kd.R_drew));exact HO.out));(case aS=>exact (below_size (by repeat (first|(with_reducible first|exact HB.out|apply below_alloc|apply pw_below_drewN|apply below_drew1)|exact HB.out))));(case aL=>have:=HQ.out;have:=HX.out;omega);intro qa w13 ho hb hg hat;have n0_:=Aside0.mk (ringGrown HG.out HO.out hg);have n1_:=Aside0.mk hb;have n2_:=Aside0.mk ho;clear HO HB HG;have HG:=n0_;have HB:=n1_;have HO:=n2_;clear n0_ n1_ n2_ ho hb hg hat))
      go_roundg (gk - 1)
      case measure=>have:=HX.out.2;omega
      case rel=>exact ⟨x12 + 1,by first|rfl|(simp;done)|(simp [*];done),⟨by have:=HX.out;omega⟩,⟨by rw [HT'.out];exact HO.out⟩,HG,HB⟩
    | false =>
      rw [hb] at hc
      have HT':=Aside0.mk (show keysFrom bs 0 (x12 + 1).toNat = keysFrom bs 0 x12.toNat by
        rw [HT.out,hb,if_neg (by simp),List.append_nil])
      clear HT hb
      generalize keysFrom bs 0 x12.toNat = ys at *
      go_wp2_with fail
      go_quiet (fail)
      go_wp2_with fail
      go_roundg (gk - 1)
      case measure=>have:=HX.out.2;omega
      case rel=>exact ⟨x12 + 1,by first|rfl|(simp;done)|(simp [*];done),⟨by have:=HX.out;omega⟩,⟨by rw [HT'.out];(with_reducible repeat (first|apply Kd.R_alloc|apply Kd.R_drewN|apply Kd.R_drew));exact HO.out⟩,⟨⟨HG.out.blk,HG.out.len⟩⟩,⟨by repeat (first|(with_reducible first|exact HB.out|apply below_alloc|apply pw_below_drewN|apply below_drew1)|exact HB.out)⟩⟩

-- NOT PRINTED: function 137 (impl_Cred)

-- NOT PRINTED: function 74 (impl_Client_cred)

end Go.Proofs.Ytbipicjijbnbbaa.Hp
