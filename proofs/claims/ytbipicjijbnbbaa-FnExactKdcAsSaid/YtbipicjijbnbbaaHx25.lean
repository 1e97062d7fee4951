-- hp.py
import Derived.Test.YtbipicjijbnbbaaHx0
import Derived.Test.YtbipicjijbnbbaaHx3
import Derived.Test.YtbipicjijbnbbaaHx5
import Derived.Test.YtbipicjijbnbbaaHx22
import Derived.Test.YtbipicjijbnbbaaCa
import Derived.Lib.SliceRun
namespace Go.Proofs.Ytbipicjijbnbbaa.Hp
open Go.RowKit Go.Proofs.YtbipicjijbnbbaaW.PrintWords Go.Proofs.YtbipicjijbnbbaaW.PrintLast Go.Proofs.YtbipicjijbnbbaaW.PrintMore
attribute [local go_sem] max2_int min2_int max_two min_two max_three min_three max_four min_four   -- for this text's walks alone
set_option linter.unusedVariables false
set_option linter.unusedSimpArgs false
-- squeezed by wip/tools/squeeze.py

/-! ### impl_remember: function 97 -/
-- IMPORT Derived.Test.YtbipicjijbnbbaaCa
-- IMPORT Derived.Lib.SliceRun
/-- Is what a seal tells of fresh? -/
def freshB (now : Int) (s : S41) : Bool:=rng s.f3 (now - 3) now
/-- What is remembered: what is fresh,and the seal,if it can be. -/
def rememb (l : List S41) (a : S41) (now : Int) : List S41 × Bool :=
  if freshB now a = true then (if (l.filter (freshB now)).any (Ca.same a) = true then (l.filter (freshB now),false) else if (l.filter (freshB now)).length < 20 then (l.filter (freshB now) ++ [a],true) else (l.filter (freshB now),false)) else (l.filter (freshB now),false)
def noneStale (now : Int) (l : List S41) (x : Int) : Prop:=∀ j : Nat,(j : Int) < x → freshB now (rd_T41 l j) = true
def firstStale (now : Int) (l : List S41) (r : Int) : Prop:=(r = -1 ∧ noneStale now l l.length) ∨ (0 ≤ r ∧ r < l.length ∧ noneStale now l r ∧ freshB now (rd_T41 l r) = false)
theorem blkB {w w1 : World} {g : Nat} {o : Obj} (hb : Below w.heap.size w w1) (h : w.heap[g]? = some o) : w1.heap[g]? = some o:=(hb.block g (blk_lt h)).trans h
theorem blkA {w : World} {g : Nat} {o : Obj} (h : w.heap[g]? = some o) (p : Obj) : (w.alloc p).heap[g]? = some o:=blkB (below_alloc (Below.refl _ _) p) h
theorem blkNew (w : World) (X : Array Value) (T : TypeId) : (w.alloc (.cells X T)).heap[w.heap.size]? = some (.cells X T (0,0)):=by simpa using heap_alloc_new w (.cells X T)
/-- A row of seals,made with room alone. -/
theorem sealsMade (w : World) (c base : Nat) (X : Array Value) (hX : X.size = c * 7) (hc : c ≤ maxLen) (hb : base ≤ w.heap.size) : Kd.R k41 41 (w.alloc (.cells X 41)) base (fun _=>True) (.slice (some ⟨w.heap.size,0,none⟩) 0 c) []:=by
  refine ⟨fun k hk=>trivial,[],⟨rfl,.inr ⟨w.heap.size,c,_,rfl,hb,blkNew w X _,Nat.zero_le _,hc,?_,?_⟩⟩,Reps.none _ _⟩
  · show _ = c * 7;exact hX
  · simp
theorem sealsNil (w : World) (base : Nat) : Kd.R k41 41 w base (fun _=>True) (.slice none 0 0) []:=⟨fun k hk=>trivial,[],⟨rfl,.inl ⟨rfl,rfl⟩⟩,Reps.none _ _⟩
theorem sealsCut {e base : Nat} {w : World} {ok : Nat → Prop} {A : Option Addr} {n c : Nat} {xs : List S41} (h : Kd.R k41 e w base ok (.slice A n c) xs) : Kd.V k41 e w base (fun k=>base ≤ k) (.slice A n n) xs:=by
  have h':=Kd.R_mono (Kd.R_bound h) (ok':=fun k=>base ≤ k) (fun k hk=>hk.2.1)
  obtain ⟨A',c',he,hl,hr⟩:=Kd.R_reads h
  injection he with h1 h2 h3
  subst h1 h2
  refine ⟨A,xs.length,rfl,Nat.le_refl _,fun W' hW' => ?_⟩
  obtain ⟨A2,c2,he2,_,hr2⟩:=Kd.R_reads (Kd.R_step h' hW')
  injection he2 with e1 _ _
  subst e1
  exact hr2
set_option maxHeartbeats 8000000 in
set_option maxRecDepth 100000 in
theorem freshTest.calls (s : S41) (B : Nat) (now : Int) (w : World) (hN : w.heap[B]? = some (.cells #[.int .i64 now] 3 (0,0))) (h0 : 0 ≤ now) (h1 : now ≤ 100) :
    Calls Try.prog 147 #[.agg #[.int .i64 s.f0,.int .i64 s.f1,.int .i64 s.f2,.int .i64 s.f3,.int .i64 s.f4,.int .i64 s.f5,.int .i64 s.f6],.pointer (some ⟨B,0,none⟩)] w fun e w' => e = .returned (.bool (freshB now s)) ∧ Below w.heap.size w w':=by
  have hlt : B < w.heap.size:=blk_lt hN
  have hc:=(blk_cell hN 0).trans rfl
  clear hN
  go_enter Try.func147,Try.ntmps147
  go_wp2_with (first|(go_at_call 72;refine (impl_within.calls _ _ _ _ _ (within_rng _ _ _)).mono ?_;rintro e w1 ⟨rfl,hd⟩; obtain ⟨m,rfl⟩:=hd.out;clear hd))
  go_ret
  exact ⟨rfl,by repeat (first|(with_reducible exact Below.refl _ _)|apply pw_below_drewN|apply below_drew1|apply below_alloc)⟩
set_option maxHeartbeats 8000000 in
set_option maxRecDepth 100000 in
theorem staleTest.calls (s : S41) (F B : Nat) (now : Int) (w : World) (hF : w.heap[F]? = some (.cells #[.func (Fn.func 147) #[] #[.pointer (some ⟨B,0,none⟩)]] 44 (0,0))) (hN : w.heap[B]? = some (.cells #[.int .i64 now] 3 (0,0))) (h0 : 0 ≤ now) (h1 : now ≤ 100) :
    Calls Try.prog 150 #[.agg #[.int .i64 s.f0,.int .i64 s.f1,.int .i64 s.f2,.int .i64 s.f3,.int .i64 s.f4,.int .i64 s.f5,.int .i64 s.f6],.pointer (some ⟨F,0,none⟩)] w fun e w' => e = .returned (.bool (!freshB now s)) ∧ Below w.heap.size w w':=by
  have hlt : F < w.heap.size:=blk_lt hF
  have hc:=(blk_cell hF 0).trans rfl
  have HN:=Aside0.mk hN
  clear hN hF
  go_enter Try.func150,Try.ntmps150
  go_wp2_with (first|(go_at_call 147;refine (freshTest.calls s B now _ (blkA HN.out _) h0 h1).mono ?_;rintro e w1 ⟨rfl,hb1⟩))
  go_ret
  exact ⟨rfl,below_then (below_alloc (Below.refl w.heap.size w) _) (by simp) hb1⟩
set_option maxHeartbeats 8000000 in
set_option maxRecDepth 100000 in
theorem staleIndex.calls (A0 : Option Addr) (c0 : Nat) (l0 : List S41) (F B : Nat) (now : Int) (w : World) (hr0 : Kd.C k41 w A0 l0.length l0) (hF : w.heap[F]? = some (.cells #[.func (Fn.func 147) #[] #[.pointer (some ⟨B,0,none⟩)]] 44 (0,0))) (hN : w.heap[B]? = some (.cells #[.int .i64 now] 3 (0,0))) (h0 : 0 ≤ now) (h1 : now ≤ 100) :
    Calls Try.prog 141 #[.slice A0 l0.length c0,.func (Fn.func 150) #[] #[.pointer (some ⟨F,0,none⟩)]] w fun e w' => (∃ r : Int,firstStale now l0 r ∧ e = .returned (.int .i64 r)) ∧ Below w.heap.size w w':=by
  have hlen:=hr0.2.1
  have HL:=Aside0.mk hlen
  have HR0:=Aside0.mk hr0
  have HF:=Aside0.mk hF
  have HN':=Aside0.mk hN
  have HNow:=Aside0.mk (And.intro h0 h1)
  clear hr0 hF hN hlen h0 h1
  go_enter Try.func141,Try.ntmps141
  go_wp2_with fail
  go_loopg [8] l0.length (fun kq v8 w' => ∃ (x8 : Int),v8 = .int .i64 x8 ∧ Aside0 (0 ≤ x8 ∧ x8 + kq = l0.length) ∧ Aside0 (noneStale now l0 x8) ∧ Aside0 (Below w.heap.size w w'))
  case atStart=>exact ⟨0,by first|rfl|(simp;done)|(simp [*];done),⟨by omega⟩,⟨fun j hj=>by omega⟩,⟨by first|exact Below.refl _ _|exact below_drew (Below.refl _ _)⟩⟩
  case round =>
    obtain ⟨x8,rfl,HX,HN,HB⟩:=hrel
    by_cases hlt : x8 < (l0.length : Int)
    rotate_left
    · have d1 : decide (x8 < (l0.length : Int)) = false:=decide_eq_false hlt
      go_wp2_with fail
      go_ret
      exact ⟨⟨-1,.inl ⟨rfl,fun j hj=>HN.out j (by have:=HX.out;omega)⟩,rfl⟩,HB.out⟩
    have d1 : decide (x8 < (l0.length : Int)) = true:=decide_eq_true hlt
    have p0 : 0 ≤ x8:=HX.out.1
    obtain ⟨ad,e0,hx0,hx1,hx2,hx3,hx4,hx5,hx6⟩:=at_T41 HR0.out x8 p0 hlt
    cases e0
    replace hx0:=(HB.out.cell (World.block_lt_of_cell? w _ hx0)).trans hx0
    replace hx1:=(HB.out.cell (World.block_lt_of_cell? w _ hx1)).trans hx1
    replace hx2:=(HB.out.cell (World.block_lt_of_cell? w _ hx2)).trans hx2
    replace hx3:=(HB.out.cell (World.block_lt_of_cell? w _ hx3)).trans hx3
    replace hx4:=(HB.out.cell (World.block_lt_of_cell? w _ hx4)).trans hx4
    replace hx5:=(HB.out.cell (World.block_lt_of_cell? w _ hx5)).trans hx5
    replace hx6:=(HB.out.cell (World.block_lt_of_cell? w _ hx6)).trans hx6
    have hw1 : x8 + 1 ≤ 9223372036854775807:=by have:=HL.out;omega
    have HC:=Aside0.mk (staleTest.calls (rd_T41 l0 x8) F B now wr (blkB HB.out HF.out) (blkB HB.out HN'.out) HNow.out.1 HNow.out.2)
    cases hb : freshB now (rd_T41 l0 x8)
    all_goals
      have HS:=Aside0.mk hb
      clear hb
      go_wp2_with (first|(go_at_call 150;refine HC.out.mono ?_;rintro e w1 ⟨rfl,hb1⟩; rw [HS.out]))
    · go_ret
      exact ⟨⟨_,.inr ⟨p0,hlt,HN.out,HS.out⟩,rfl⟩,below_then HB.out HB.out.size hb1⟩
    · go_roundg (gk - 1)
      case measure=>have:=HX.out.2;omega
      case rel =>
        refine ⟨x8 + 1,by first|rfl|(simp;done)|(simp [*];done),⟨by have:=HX.out;omega⟩,⟨fun j hj=>?_⟩,⟨below_then HB.out HB.out.size hb1⟩⟩
        by_cases hj' : (j : Int) < x8
        · exact HN.out j hj'
        · obtain rfl : (j : Int) = x8:=by omega
          exact HS.out
set_option maxHeartbeats 8000000 in
set_option maxRecDepth 100000 in
theorem cloneSeals.calls (A : Option Addr) (c : Nat) (l : List S41) (w : World) (hr : Kd.C k41 w A l.length l) (hm : l.length ≤ 1000000) :
    Calls Try.prog 149 #[.slice A l.length c] w fun e w' => ∃ v0_ : Value,e = .returned v0_ ∧ Kd.R k41 41 w' w.heap.size (fun _=>True) v0_ l ∧ Below w.heap.size w w':=by
  have hnil:=fun (w : World)=>Lib.run_eql_slice_nil (P:=Try.prog) w 32 41 A l.length c 0 0 Try.underlying32
  have HR:=Aside0.mk hr
  have HM:=Aside0.mk hm
  cases A with
  | none =>
    have hl : l = []:=by
      cases l with
      | nil=>rfl
      | cons a t =>
        obtain ⟨ad,e,_⟩:=hr.2.2 (by simp)
        cases e
    subst hl
    simp only [List.length_nil] at hnil
    clear hr hm
    go_enter Try.func149,Try.ntmps149
    go_wp2_with fail
    go_ret
    exact ⟨_,rfl,sealsNil _ _,Below.refl _ _⟩
  | some ad =>
    clear hr hm
    go_enter Try.func149,Try.ntmps149
    go_wp2_with (first|((with_reducible refine gate_builtin (b:=.append) (xs:=#[.tmp 5,.tmp 6]) rfl ?_);at_builtin;refine Kd.R_append_rows k41 (w0:=w) w.heap.size rfl (.tmp 5) (.tmp 6) 32 41 (.agg #[(.int .i64 0),(.int .i64 0),(.int .i64 0),(.int .i64 0),(.int .i64 0),(.int .i64 0),(.int .i64 0)]) 56 rfl Try.underlying32 info41 rfl (by decide) (by omega) _ [] l _ _ _ (fun _=>True) (fun _=>False) rfl rfl ?aO ?aR (fun _ _ h=>h) (fun _ h=>h.elim) ?aF ?aB ?aS ?aL ?_;(case aO=>exact sealsMade w 0 w.heap.size #[] rfl (by unfold maxLen;omega) (Nat.le_refl _));(case aR=>exact Kd.C_alloc HR.out _);(case aF=>exact fun _ _=>trivial);(case aB=>exact below_alloc (Below.refl _ _) _);(case aS=>simp);(case aL=>have:=HM.out;simp;omega);intro v1 w1 ho hb hg hat;have HO:=Aside0.mk ho;have HB:=Aside0.mk hb;clear ho hb hg hat))
    go_ret
    exact ⟨_,rfl,HO.out,HB.out⟩
set_option maxHeartbeats 8000000 in
set_option maxRecDepth 100000 in
theorem clipSeals.calls (A : Option Addr) (n c : Nat) (w : World) (hn : n ≤ c) :
    Calls Try.prog 151 #[.slice A n c] w fun e w' => e = .returned (.slice A n n) ∧ w' = w:=by
  go_enter Try.func151,Try.ntmps151
  go_wp2_with fail
  go_ret
  exact ⟨rfl,rfl⟩
theorem grownBelow {w w1 w2 : World} {row : Option Nat} (h : w.grownBy w1 row) (k : Below w1.heap.size w1 w2) : w.grownBy w2 row:=⟨k.os.trans h.os,k.tape.trans h.tape,k.output.trans h.output,Nat.le_trans h.size k.size,fun b hb hn=>(k.block b (Nat.lt_of_lt_of_le hb h.size)).trans (h.block b hb hn)⟩
theorem grownTwice {w w1 w2 : World} {row : Option Nat} (h : w.grownBy w1 row) (k : w1.grownBy w2 row) : w.grownBy w2 row:=⟨k.os.trans h.os,k.tape.trans h.tape,k.output.trans h.output,Nat.le_trans h.size k.size,fun b hb hn=>(k.block b (Nat.lt_of_lt_of_le hb h.size) hn).trans (h.block b hb hn)⟩
theorem sealsCells {base : Nat} {w : World} {ok : Nat → Prop} {g n cap : Nat} {xs : List S41} (h : Kd.R k41 41 w base ok (.slice (some ⟨g,0,none⟩) n cap) xs) (j : Nat) (hj : j < n * 7) : (w.cell? ⟨g,j,none⟩).isSome = true ∧ w.frozen? ⟨g,j,none⟩ = false:=by
  obtain ⟨hn,hnc,_⟩:=Kd.R_reads' h
  obtain ⟨hok,inner,ho,hr⟩:=h
  rcases ho.2 with ⟨hv,_⟩|⟨g',cap',cur,hv,hb,hh,hnc',hcm,hcs,ht⟩
  · cases hv
  injection hv with ha _ hc
  injection ha with ha
  injection ha with hg
  subst hg;subst hc
  have hcs' : cur.size = cap * 7:=hcs
  have hle : n * 7 ≤ cap * 7:=Nat.mul_le_mul_right _ hnc
  refine ⟨?_,blk_frozen hh _⟩
  rw [blk_cell hh j]
  simp
  omega
theorem zerosOf (n : Nat) : (Builtin.zeroCells #[(.int .i64 0),(.int .i64 0),(.int .i64 0),(.int .i64 0),(.int .i64 0),(.int .i64 0),(.int .i64 0)] n).toList = List.replicate (n * 7) (.int .i64 0):=by
  simp only [Builtin.zeroCells]
  apply List.ext_getElem
  · simp
  · intro i h1 h2
    have h3 : i % 7 < 7:=Nat.mod_lt _ (by omega)
    simp
    generalize i % 7 = j at h3
    rcases j with _|_|_|_|_|_|_|_ <;> first|rfl|omega
theorem run_clearSeals (w : World) (ty : TypeId) (b o n c : Nat) (hc : ∀ j,j < n * 7 → (w.cell? ⟨b,o + j,none⟩).isSome = true) (hf : ∀ j,j < n * 7 → w.frozen? ⟨b,o + j,none⟩ = false) :
    (Builtin.clear_ #[32] ty #[.slice (some ⟨b,o,none⟩) n c]).run Try.prog w = .ok (.tuple #[]) (w.setCells b o (List.replicate (n * 7) (.int .i64 0))):=by
  obtain ⟨i0,hi,hz⟩:=Option.map_eq_some_iff.1 info41
  simp only [Prod.mk.injEq] at hz
  have hst:=run_storeCells_cells (P:=Try.prog) b o (List.replicate (n * 7) (.int .i64 0)) 0 w (by simpa using hc) (by simpa using hf) (by intro v hv'; rw [List.eq_of_mem_replicate hv'];rfl)
  simp only [Nat.add_zero] at hst
  cases n with
  | zero=>simp [Builtin.clear_,run_underlying Try.underlying32,World.setCells]
  | succ m =>
    have hzs:=zerosOf (m + 1)
    simp [Builtin.clear_,run_underlying Try.underlying32,zeroValue,typeInfo,hi,hz.1,Value.cells,hzs,hst]
theorem sealsShort {base : Nat} {w : World} {g n cap i : Nat} {xs : List S41} (h : Kd.R k41 41 w base (fun _=>True) (.slice (some ⟨g,0,none⟩) n cap) xs) (hi : i ≤ n) (seg : List Value) (hseg : i * 7 + seg.length ≤ n * 7) :
    Kd.R k41 41 (w.setCells g (i * 7) seg) base (fun _=>True) (.slice (some ⟨g,0,none⟩) i cap) (xs.take i) ∧ w.grownBy (w.setCells g (i * 7) seg) (some g):=by
  obtain ⟨hn,hnc,_⟩:=Kd.R_reads' h
  obtain ⟨hok,inner,ho,hr⟩:=h
  have hr1 : inner.length = xs.length * 7:=hr.1
  rcases ho.2 with ⟨hv,_⟩|⟨g',cap',cur,hv,hb,hh,hnc',hcm,hcs,ht⟩
  · cases hv
  injection hv with ha _ hc
  injection ha with ha
  injection ha with hg
  subst hg;subst hc
  have hcs' : cur.size = cap * 7:=hcs
  have ht' : cur.toList.take (n * 7) = inner:=by rw [← ht,hn];rfl
  have hle : n * 7 ≤ cap * 7:=Nat.mul_le_mul_right _ hnc
  have qp : i * 7 ≤ n * 7:=Nat.mul_le_mul_right _ hi
  obtain ⟨cur',h3,h4,h5⟩:=setCells_row seg (i * 7) w cur hh (by omega)
  obtain ⟨s1,s2,s3,s4⟩:=setCells_same g seg (i * 7) w
  have hlc : cur.toList.length = cap * 7:=by simpa using hcs'
  have hin : cur'.toList.take (i * 7) = inner.take (i * 7):=by
    rw [h5,List.append_assoc,List.take_append_of_le_length (by rw [List.length_take];omega),List.take_take,← ht',List.take_take]
    congr 1
    omega
  have hlt : (xs.take i).length = i:=by rw [List.length_take];omega
  refine ⟨⟨fun _ _=>trivial,cur'.toList.take (i * 7),⟨?_,.inr ⟨g,cap,cur',by rw [hlt],hb,h3,by rw [hlt];omega,hcm,by rw [h4];exact hcs,by rw [hlt];rfl⟩⟩,?_,fun j p hj=>?_⟩,s1,s2,s3,by omega,fun k _ hk=>setCells_far seg _ k (fun e=>hk (by rw [e]))⟩
  · show _ = (xs.take i).length * 7
    rw [hin,List.length_take,hlt];omega
  · show _ = (xs.take i).length * 7
    rw [hin,List.length_take,hlt];omega
  · have hji : j < i:=by
      rcases Nat.lt_or_ge j i with h|h
      · exact h
      · rw [List.getElem?_eq_none (by omega)] at hj;cases hj
    have hj' : xs[j]? = some p:=by rw [List.getElem?_take,if_pos hji] at hj;exact hj
    have hM:=hr.2 j p hj'
    have e : ((inner.take (i * 7)).drop (j * 7)).take 7 = (inner.drop (j * 7)).take 7:=by
      rw [List.drop_take,List.take_take]
      congr 1
      have : (j + 1) * 7 ≤ i * 7:=Nat.mul_le_mul_right _ hji
      omega
    show Kd.M _ _ _ _ p (((cur'.toList.take (i * 7)).drop (j * 7)).take 7)
    rw [hin,e]
    have hM' : Kd.M k41 w base _ p ((inner.drop (j * 7)).take 7):=hM
    rw [k41_openM hM']
    exact k41_mkM _ _ _ p
theorem keptStart {now : Int} {l : List S41} {r : Int} (h0 : 0 ≤ r) (h1 : r < l.length) (hn : noneStale now l r) (hs : freshB now (rd_T41 l r) = false) : l.take r.toNat = (l.take (r + 1).toNat).filter (freshB now):=by
  have hlt : r.toNat < l.length:=by omega
  have hrd : rd_T41 l r = l[r.toNat]:=by have:=Ca.rd_is l r.toNat hlt;rwa [Int.toNat_of_nonneg h0] at this
  rw [show (r + 1).toNat = r.toNat + 1 from by omega,List.take_succ_eq_append_getElem hlt,List.filter_append]
  rw [hrd] at hs
  have e2 : ([l[r.toNat]] : List S41).filter (freshB now) = []:=by simp [hs]
  rw [e2,List.append_nil]
  refine (List.filter_eq_self.2 fun a ha=>?_).symm
  obtain ⟨j,hj,rfl⟩:=List.mem_iff_getElem.1 ha
  rw [List.length_take] at hj
  rw [List.getElem_take,← Ca.rd_is l j (by omega)]
  exact hn j (by omega)
theorem keptAll {now : Int} {l : List S41} (hn : noneStale now l l.length) : l.filter (freshB now) = l:=by
  refine List.filter_eq_self.2 fun a ha=>?_
  obtain ⟨j,hj,rfl⟩:=List.mem_iff_getElem.1 ha
  rw [← Ca.rd_is l j hj]
  exact hn j (by omega)
theorem cutSkip {now : Int} {l ys : List S41} {i j : Int} (h0 : 0 ≤ j) (h1 : j < l.length) (hk : ys.take i.toNat = (l.take j.toNat).filter (freshB now)) (hs : freshB now (rd_T41 l j) = false) : ys.take i.toNat = (l.take (j + 1).toNat).filter (freshB now):=by
  have hlt : j.toNat < l.length:=by omega
  have hrd : rd_T41 l j = l[j.toNat]:=by have:=Ca.rd_is l j.toNat hlt;rwa [Int.toNat_of_nonneg h0] at this
  rw [show (j + 1).toNat = j.toNat + 1 from by omega,List.take_succ_eq_append_getElem hlt,List.filter_append,hk]
  rw [hrd] at hs
  have e2 : ([l[j.toNat]] : List S41).filter (freshB now) = []:=by simp [hs]
  rw [e2,List.append_nil]
theorem cutKeep {now : Int} {l ys : List S41} {i j : Int} (h0 : 0 ≤ i) (h1 : i < j) (h2 : j < l.length) (hl : ys.length = l.length) (hk : ys.take i.toNat = (l.take j.toNat).filter (freshB now)) (hd : ys.drop j.toNat = l.drop j.toNat) (hs : freshB now (rd_T41 l j) = true) :
    (ys.set i.toNat (rd_T41 l j)).take (i + 1).toNat = (l.take (j + 1).toNat).filter (freshB now) ∧ (ys.set i.toNat (rd_T41 l j)).drop (j + 1).toNat = l.drop (j + 1).toNat:=by
  have hlt : j.toNat < l.length:=by omega
  have hrd : rd_T41 l j = l[j.toNat]:=by have:=Ca.rd_is l j.toNat hlt;rwa [Int.toNat_of_nonneg (by omega)] at this
  constructor
  · rw [show (j + 1).toNat = j.toNat + 1 from by omega,List.take_succ_eq_append_getElem hlt,List.filter_append,← hk]
    rw [hrd] at hs
    have e2 : ([l[j.toNat]] : List S41).filter (freshB now) = [l[j.toNat]]:=by simp [hs]
    rw [e2,hrd,show (i + 1).toNat = i.toNat + 1 from by omega,List.take_succ_eq_append_getElem (by rw [List.length_set];omega),List.getElem_set_self,List.take_set_of_le (Nat.le_refl _)]
  · rw [List.drop_set_of_lt (by omega),show (j + 1).toNat = j.toNat + 1 from by omega,← List.drop_drop,← List.drop_drop,hd]
theorem cutRead {l ys : List S41} {j : Int} (h0 : 0 ≤ j) (h1 : j < l.length) (hl : ys.length = l.length) (hd : ys.drop j.toNat = l.drop j.toNat) : rd_T41 ys j = rd_T41 l j:=by
  have h1' : j.toNat < l.length:=by omega
  have h2' : j.toNat < ys.length:=by omega
  have e1:=Ca.rd_is l j.toNat h1'
  have e2:=Ca.rd_is ys j.toNat h2'
  rw [Int.toNat_of_nonneg h0] at e1 e2
  rw [e1,e2]
  rw [List.drop_eq_getElem_cons h1',List.drop_eq_getElem_cons h2'] at hd
  injection hd
theorem keptDone {now : Int} {l ys : List S41} {i j : Int} (h1 : ¬ j < l.length) (hk : ys.take i.toNat = (l.take j.toNat).filter (freshB now)) : ys.take i.toNat = l.filter (freshB now):=by
  rw [hk,List.take_of_length_le (by omega)]
set_option maxHeartbeats 16000000 in
set_option maxRecDepth 100000 in
theorem deleteStale.calls (v : Value) (l : List S41) (F B base : Nat) (now : Int) (w : World) (hO : Kd.R k41 41 w base (fun _=>True) v l) (hbase : base ≤ w.heap.size) (hF : w.heap[F]? = some (.cells #[.func (Fn.func 147) #[] #[.pointer (some ⟨B,0,none⟩)]] 44 (0,0))) (hN : w.heap[B]? = some (.cells #[.int .i64 now] 3 (0,0))) (hFv : some F ≠ v.ownBlock) (hBv : some B ≠ v.ownBlock) (h0 : 0 ≤ now) (h1 : now ≤ 100) (hm : l.length ≤ 1000000) :
    Calls Try.prog 148 #[v,.func (Fn.func 150) #[] #[.pointer (some ⟨F,0,none⟩)]] w fun e w' => ∃ v0_ : Value,e = .returned v0_ ∧ Kd.R k41 41 w' base (fun _=>True) v0_ (l.filter (freshB now)) ∧ Below base w w' ∧ w.grownBy w' v.ownBlock:=by
  obtain ⟨A,c,rfl,hlc,hC⟩:=Kd.R_reads hO
  have HM:=Aside0.mk hm
  have HO:=Aside0.mk hO
  have HC:=Aside0.mk hC
  have HF:=Aside0.mk hF
  have HN:=Aside0.mk hN
  have HNow:=Aside0.mk (And.intro h0 h1)
  have HV:=Aside0.mk (And.intro hFv hBv)
  have HBs:=Aside0.mk hbase
  clear hO hC hF hN h0 h1 hm hFv hBv hbase
  go_enter Try.func148,Try.ntmps148
  go_wp2_with (first|(go_at_call 141;refine (staleIndex.calls A c l F B now _ HC.out HF.out HN.out HNow.out.1 HNow.out.2).mono ?_;rintro e w1 ⟨⟨r,hr,rfl⟩,hb1⟩; refine Classical.byContradiction (fun HX=>?_)))
  have HB1:=Aside0.mk hb1
  clear hb1
  refine HX ?_
  clear HX
  rcases hr with ⟨rfl,hns⟩|⟨r0,r1,hns,hst⟩
  · have HS:=Aside0.mk hns
    clear hns
    go_wp2_with fail
    go_ret
    refine ⟨_,rfl,?_,HB1.out.mono HBs.out,⟨HB1.out.os,HB1.out.tape,HB1.out.output,HB1.out.size,fun k hk _=>HB1.out.block k hk⟩⟩
    rw [keptAll HS.out]
    exact Kd.R_below HO.out HB1.out
  · have HS:=Aside0.mk (keptStart r0 r1 hns hst)
    clear hns hst
    have hne : ¬ r = -1:=by omega
    have hr1 : r + 1 ≤ 9223372036854775807:=by have:=HM.out;omega
    have hr2 : -9223372036854775808 ≤ r + 1:=by omega
    obtain ⟨g,cap,eg,gb,gl,_⟩:=Kd.R_form HO.out (by omega)
    injection eg with e1 _ e3
    subst e1 e3
    have HG:=Aside0.mk (And.intro gb gl)
    clear gb gl
    have HR:=Aside0.mk (And.intro r0 r1)
    clear r0 r1
    go_wp2_with fail
    go_loopg [5,6] l.length (fun kq v5 v6 w' => ∃ (ys : List S41) (x5 x6 : Int),v5 = .int .i64 x5 ∧ v6 = .int .i64 x6 ∧ Aside0 (0 ≤ x5 ∧ x5 < x6 ∧ x6 ≤ l.length ∧ l.length ≤ x6 + kq ∧ ys.length = l.length) ∧ Aside0 (ys.take x5.toNat = (l.take x6.toNat).filter (freshB now) ∧ ys.drop x6.toNat = l.drop x6.toNat) ∧ Aside0 (Kd.R k41 41 w' base (fun _=>True) (.slice (some ⟨g,0,none⟩) l.length c) ys) ∧ Aside0 (Below base w w') ∧ Aside0 (w.grownBy w' (some g)))
    case atStart=>exact ⟨l,r,r + 1,rfl,rfl,⟨HR.out.1,by omega,by have:=HR.out;omega,by have:=HR.out;omega,rfl⟩,⟨HS.out,rfl⟩,⟨Kd.R_below HO.out HB1.out⟩,⟨HB1.out.mono HBs.out⟩,⟨⟨HB1.out.os,HB1.out.tape,HB1.out.output,HB1.out.size,fun k hk _=>HB1.out.block k hk⟩⟩⟩
    case round =>
      obtain ⟨ys,x5,x6,rfl,rfl,HX,HK,HO',HB',HG'⟩:=hrel
      by_cases hlt : x6 < (l.length : Int)
      rotate_left
      · have d1 : decide (x6 < (l.length : Int)) = false:=decide_eq_false hlt
        have q0 : 0 ≤ x5:=HX.out.1
        have q1 : x5 ≤ (l.length : Int):=by have:=HX.out;omega
        have q2 : ¬ c = x5.toNat:=by have:=HX.out;omega
        have q3 : (c == x5.toNat) = false:=by simpa using q2
        have q4 : ¬ c ≤ x5.toNat:=by have:=HX.out;omega
        have q5 : ¬ c - x5.toNat = 0:=by omega
        have hcs:=sealsCells HO'.out
        have hclr : (Builtin.clear_ #[32] 0 #[.slice (some ⟨g,x5.toNat * 7,none⟩) (l.length - x5.toNat) (c - x5.toNat)]).run Try.prog wr = .ok (.tuple #[]) (wr.setCells g (x5.toNat * 7) (List.replicate ((l.length - x5.toNat) * 7) (.int .i64 0))):=run_clearSeals wr 0 g (x5.toNat * 7) _ _ (fun j hj=>(hcs _ (by omega)).1) (fun j hj=>(hcs _ (by omega)).2)
        clear hcs
        have HCUT:=Aside0.mk (sealsShort HO'.out (i:=x5.toNat) (by omega) (List.replicate ((l.length - x5.toNat) * 7) (.int .i64 0)) (by rw [List.length_replicate];omega))
        go_wp2_with fail
        go_ret
        rw [keptDone (j:=x6) (by omega) HK.out.1] at HCUT
        exact ⟨_,rfl,HCUT.out.1,HB'.out.grown HCUT.out.2 (Nat.le_trans HBs.out HB'.out.size) (fun k hk=>by cases hk;exact HG.out.1),grownTwice HG'.out HCUT.out.2⟩
      have d1 : decide (x6 < (l.length : Int)) = true:=decide_eq_true hlt
      have p0 : 0 ≤ x6:=by have:=HX.out;omega
      obtain ⟨ce,hcl,hM,hcc,hfr⟩:=Kd.R_elem HO'.out z41 x6 p0 hlt
      obtain rfl:=k41_openM hM
      have hrd : (ys.getD x6.toNat z41) = rd_T41 l x6:=cutRead p0 hlt HX.out.2.2.2.2 HK.out.2
      have hx0 : wr.cell? ⟨g,x6.toNat * 7,none⟩ = some (.int .i64 (rd_T41 l x6).f0):=(hcc 0 _ rfl).trans (by rw [hrd])
      have hx1 : wr.cell? ⟨g,x6.toNat * 7 + 1,none⟩ = some (.int .i64 (rd_T41 l x6).f1):=(hcc 1 _ rfl).trans (by rw [hrd])
      have hx2 : wr.cell? ⟨g,x6.toNat * 7 + 2,none⟩ = some (.int .i64 (rd_T41 l x6).f2):=(hcc 2 _ rfl).trans (by rw [hrd])
      have hx3 : wr.cell? ⟨g,x6.toNat * 7 + 3,none⟩ = some (.int .i64 (rd_T41 l x6).f3):=(hcc 3 _ rfl).trans (by rw [hrd])
      have hx4 : wr.cell? ⟨g,x6.toNat * 7 + 4,none⟩ = some (.int .i64 (rd_T41 l x6).f4):=(hcc 4 _ rfl).trans (by rw [hrd])
      have hx5 : wr.cell? ⟨g,x6.toNat * 7 + 5,none⟩ = some (.int .i64 (rd_T41 l x6).f5):=(hcc 5 _ rfl).trans (by rw [hrd])
      have hx6 : wr.cell? ⟨g,x6.toNat * 7 + 6,none⟩ = some (.int .i64 (rd_T41 l x6).f6):=(hcc 6 _ rfl).trans (by rw [hrd])
      clear hcl hM hcc hfr hrd
      have hw1 : x6 + 1 ≤ 9223372036854775807:=by have:=HM.out;omega
      have q0 : 0 ≤ x5:=HX.out.1
      have q1 : x5 < (l.length : Int):=by have:=HX.out;omega
      have hw2 : x5 + 1 ≤ 9223372036854775807:=by have:=HM.out;omega
      have hgl : g < wr.heap.size:=Nat.lt_of_lt_of_le HG.out.2 HG'.out.size
      have HFr:=Aside0.mk ((HG'.out.block F (blk_lt HF.out) HV.out.1).trans HF.out)
      have HNr:=Aside0.mk ((HG'.out.block B (blk_lt HN.out) HV.out.2).trans HN.out)
      have HT:=Aside0.mk (fun W (hW : Below wr.heap.size wr W)=>staleTest.calls (rd_T41 l x6) F B now W (blkB hW HFr.out) (blkB hW HNr.out) HNow.out.1 HNow.out.2)
      cases hb : freshB now (rd_T41 l x6)
      · have HS':=Aside0.mk hb
        clear hb
        go_wp2_with (first|(go_at_call 150;refine (HT.out _ ?bw).mono ?_;(case bw=>repeat (first|exact Below.refl _ _|apply below_alloc|(refine below_set ?_ (Nat.le_refl _))));rintro e w2 ⟨rfl,hb2⟩; have HW:=Aside0.mk (below_step (show Below wr.heap.size wr _ from by repeat (first|exact Below.refl _ _|apply below_alloc|(refine below_set ?_ (Nat.le_refl _)))) hb2);clear hb2;rw [HS'.out]))
        go_roundg (gk - 1)
        case measure=>have:=HX.out;omega
        case rel=>exact ⟨ys,x5,x6 + 1,rfl,rfl,⟨by have:=HX.out;omega⟩,⟨cutSkip p0 hlt HK.out.1 HS'.out,by rw [show (x6 + 1).toNat = x6.toNat + 1 from by omega,← List.drop_drop,← List.drop_drop,HK.out.2]⟩,⟨Kd.R_below HO'.out HW.out⟩,⟨below_then HB'.out (Nat.le_trans HBs.out HB'.out.size) HW.out⟩,⟨grownBelow HG'.out HW.out⟩⟩
      · have HS':=Aside0.mk hb
        clear hb
        go_wp2_with (first|(go_at_call 150;refine (HT.out _ ?bw).mono ?_;(case bw=>repeat (first|exact Below.refl _ _|apply below_alloc|(refine below_set ?_ (Nat.le_refl _))));rintro e w2 ⟨rfl,hb2⟩; have HW:=Aside0.mk (below_step (show Below wr.heap.size wr _ from by repeat (first|exact Below.refl _ _|apply below_alloc|(refine below_set ?_ (Nat.le_refl _)))) hb2);have hk2:=blkB hb2 (blkNew wr _ _);have hy0:=(blk_cell hk2 0).trans rfl;have hy1:=(blk_cell hk2 1).trans rfl;have hy2:=(blk_cell hk2 2).trans rfl;have hy3:=(blk_cell hk2 3).trans rfl;have hy4:=(blk_cell hk2 4).trans rfl;have hy5:=(blk_cell hk2 5).trans rfl;have hy6:=(blk_cell hk2 6).trans rfl;clear hk2 hb2;have HO2:=Aside0.mk (Kd.R_below HO'.out HW.out);obtain ⟨ce2,ql,hM2,qh,qi⟩:=Kd.R_elem HO2.out z41 x5 q0 q1;obtain rfl:=k41_openM hM2;have HP:=Aside0.mk (Kd.R_seg HO2.out x5 q0 q1 (seg:=[.int .i64 (rd_T41 l x6).f0,.int .i64 (rd_T41 l x6).f1,.int .i64 (rd_T41 l x6).f2,.int .i64 (rd_T41 l x6).f3,.int .i64 (rd_T41 l x6).f4,.int .i64 (rd_T41 l x6).f5,.int .i64 (rd_T41 l x6).f6]) (j:=0) ql qh (show 7 ≤ 7 from by decide) (x':=rd_T41 l x6) (k41_mkM _ _ _ (rd_T41 l x6)) (fun _ hk=>hk));have hz0 : w2.cell? ⟨g,x5.toNat * 7,none⟩ = some (.int .i64 (ys.getD x5.toNat z41).f0):=qh 0 _ rfl;have hf0 : w2.frozen? ⟨g,x5.toNat * 7,none⟩ = false:=qi 0;have hz1 : w2.cell? ⟨g,x5.toNat * 7 + 1,none⟩ = some (.int .i64 (ys.getD x5.toNat z41).f1):=qh 1 _ rfl;have hf1 : w2.frozen? ⟨g,x5.toNat * 7 + 1,none⟩ = false:=qi 1;have hz2 : w2.cell? ⟨g,x5.toNat * 7 + 2,none⟩ = some (.int .i64 (ys.getD x5.toNat z41).f2):=qh 2 _ rfl;have hf2 : w2.frozen? ⟨g,x5.toNat * 7 + 2,none⟩ = false:=qi 2;have hz3 : w2.cell? ⟨g,x5.toNat * 7 + 3,none⟩ = some (.int .i64 (ys.getD x5.toNat z41).f3):=qh 3 _ rfl;have hf3 : w2.frozen? ⟨g,x5.toNat * 7 + 3,none⟩ = false:=qi 3;have hz4 : w2.cell? ⟨g,x5.toNat * 7 + 4,none⟩ = some (.int .i64 (ys.getD x5.toNat z41).f4):=qh 4 _ rfl;have hf4 : w2.frozen? ⟨g,x5.toNat * 7 + 4,none⟩ = false:=qi 4;have hz5 : w2.cell? ⟨g,x5.toNat * 7 + 5,none⟩ = some (.int .i64 (ys.getD x5.toNat z41).f5):=qh 5 _ rfl;have hf5 : w2.frozen? ⟨g,x5.toNat * 7 + 5,none⟩ = false:=qi 5;have hz6 : w2.cell? ⟨g,x5.toNat * 7 + 6,none⟩ = some (.int .i64 (ys.getD x5.toNat z41).f6):=qh 6 _ rfl;have hf6 : w2.frozen? ⟨g,x5.toNat * 7 + 6,none⟩ = false:=qi 6;clear ql qh qi hM2;rw [HS'.out])|((with_reducible refine gate_store (t:=41) (p:=33) rfl ?_);refine store_event (t:=41) (p:=33) (v:=?vo) (w1:=(((((((w2.setCell ⟨g,x5.toNat * 7,none⟩ (.int .i64 (rd_T41 l x6).f0)).setCell ⟨g,x5.toNat * 7 + 1,none⟩ (.int .i64 (rd_T41 l x6).f1)).setCell ⟨g,x5.toNat * 7 + 2,none⟩ (.int .i64 (rd_T41 l x6).f2)).setCell ⟨g,x5.toNat * 7 + 3,none⟩ (.int .i64 (rd_T41 l x6).f3)).setCell ⟨g,x5.toNat * 7 + 4,none⟩ (.int .i64 (rd_T41 l x6).f4)).setCell ⟨g,x5.toNat * 7 + 5,none⟩ (.int .i64 (rd_T41 l x6).f5)).setCell ⟨g,x5.toNat * 7 + 6,none⟩ (.int .i64 (rd_T41 l x6).f6))) ?hg ?ho ?hn ?hr ?_;(case ho=>rfl);(case hg=>rfl);(case hn=>rfl);(case hr=>first|(go_simp;done)|(go_simp;rfl));intro w3 hw;have HO3:=Aside0.mk (show Kd.R k41 41 w3 base (fun _=>True) (.slice (some ⟨g,0,none⟩) l.length c) (ys.set x5.toNat (rd_T41 l x6)) from by rw [hw];exact HP.out.1);have HG3:=Aside0.mk (show w2.grownBy w3 (some g) from by rw [hw];exact HP.out.2);clear HP hw))
        go_roundg (gk - 1)
        case measure=>have:=HX.out;omega
        case rel =>
          have HK3:=cutKeep (now:=now) q0 HX.out.2.1 hlt HX.out.2.2.2.2 HK.out.1 HK.out.2 HS'.out
          exact ⟨_,x5 + 1,x6 + 1,rfl,rfl,⟨by rw [List.length_set];have:=HX.out;omega⟩,⟨HK3⟩,⟨HO3.out⟩,⟨(below_then HB'.out (Nat.le_trans HBs.out HB'.out.size) HW.out).grown HG3.out (Nat.le_trans HBs.out (Nat.le_trans HB'.out.size HW.out.size)) (fun k hk=>by cases hk;exact HG.out.1)⟩,⟨grownTwice (grownBelow HG'.out HW.out) HG3.out⟩⟩
theorem sealsApart {base F : Nat} {w : World} {ok : Nat → Prop} {v : Value} {xs : List S41} (h : Kd.R k41 41 w base ok v xs) (hF : F < base) : some F ≠ v.ownBlock:=by
  obtain ⟨_,inner,ho,_⟩:=h
  intro e
  have:=own_base ho F e.symm
  omega
theorem seven {w : World} {b : Nat} {c0 c1 c2 c3 c4 c5 c6 : Value} {T : TypeId} (h : w.heap[b]? = some (.cells #[c0,c1,c2,c3,c4,c5,c6] T (0,0))) : w.cell? ⟨b,0,none⟩ = some c0 ∧ w.cell? ⟨b,1,none⟩ = some c1 ∧ w.cell? ⟨b,2,none⟩ = some c2 ∧ w.cell? ⟨b,3,none⟩ = some c3 ∧ w.cell? ⟨b,4,none⟩ = some c4 ∧ w.cell? ⟨b,5,none⟩ = some c5 ∧ w.cell? ⟨b,6,none⟩ = some c6 :=
  ⟨blk_cell h 0,blk_cell h 1,blk_cell h 2,blk_cell h 3,blk_cell h 4,blk_cell h 5,blk_cell h 6⟩
theorem anySame (l : List S41) (s : S41) (hl : l.length ≤ 9223372036854775807) : ∃ k,impl_Seal_146.f k l s.f0 s.f1 s.f2 s.f3 s.f4 s.f5 s.f6 = some (l.any (Ca.same s)):=by
  obtain ⟨r,hr,hi⟩:=Ca.contains_ev l s hl
  obtain ⟨k,hk⟩:=hr.rounds
  have e : r = l.any (Ca.same s):=by
    rw [Bool.eq_iff_iff,hi,List.any_eq_true]
    exact ⟨fun h=>⟨s,h,Ca.same_iff.2 rfl⟩,fun ⟨x,hx,he⟩=>by rw [Ca.same_iff.1 he];exact hx⟩
  exact ⟨k,by rw [← e];exact hk⟩
def impl_remember.f (l0 : List S41) (qg qf qe qd qc qb qa a2 : Int) : Option (List S41 × Bool) :=
  if 0 ≤ a2 ∧ a2 ≤ 100 ∧ l0.length ≤ 1000000 then some (rememb l0 ⟨qg,qf,qe,qd,qc,qb,qa⟩ a2) else none
set_option maxHeartbeats 16000000 in
set_option maxRecDepth 100000 in
theorem impl_remember.calls (A0 : Option Addr) (c0 : Nat) (l0 : List S41) (qg : Int) (qf : Int) (qe : Int) (qd : Int) (qc : Int) (qb : Int) (qa : Int) (a2 : Int) (r1 : List S41) (r2 : Bool) (w : World) (hr0 : Kd.C k41 w A0 l0.length l0) (hc0 : l0.length ≤ c0) (h : impl_remember.f l0 qg qf qe qd qc qb qa a2 = some (r1,r2)) :
    Calls Try.prog 97 #[.slice A0 l0.length c0,.agg #[.int .i64 qg,.int .i64 qf,.int .i64 qe,.int .i64 qd,.int .i64 qc,.int .i64 qb,.int .i64 qa],.int .i64 a2] w fun e w' => ∃ (v0_ vc_ : Value),e = .returned (.tuple #[vc_,.bool r2]) ∧ (∀ A n c,v0_ = .slice A n c → vc_ = .slice A n n) ∧ Kd.R k41 41 w' w.heap.size (fun _=>True) v0_ r1 ∧ Below w.heap.size w w':=by
  unfold impl_remember.f at h
  split at h
  case isFalse=>cases h
  case isTrue hpre =>
    have hrem:=Option.some.inj h
    clear h
    have HP:=Aside0.mk hpre
    have HR:=Aside0.mk hr0
    have HE:=Aside0.mk hrem
    clear hpre hr0 hrem
    have hsf:=fun (w : World) (a : Addr) (b : Nat) (m)=>run_store Try.prog w a (.func (Fn.func 147) #[] #[.pointer (some ⟨b,0,none⟩)]) m rfl
    have HLF:=Aside0.mk (Nat.le_trans (List.length_filter_le (freshB a2) l0) HP.out.2.2)
    obtain ⟨kc,hkc⟩:=anySame (l0.filter (freshB a2)) (⟨qg,qf,qe,qd,qc,qb,qa⟩ : S41) (by have:=HLF.out;omega)
    have HK:=Aside0.mk hkc
    clear hkc
    unfold rememb at HE
    cases hb : freshB a2 (⟨qg,qf,qe,qd,qc,qb,qa⟩ : S41)
    case' true=>cases hm : (l0.filter (freshB a2)).any (Ca.same (⟨qg,qf,qe,qd,qc,qb,qa⟩ : S41))
    case' true.false=>by_cases hl : (l0.filter (freshB a2)).length < 20
    all_goals
      have HS:=Aside0.mk hb
      first
        | have HM:=Aside0.mk hm
        | skip
      have he:=HE.out
      simp only [*,if_true,if_false,Bool.false_eq_true,Prod.mk.injEq] at he
      clear hb HE
      try clear hm
      obtain ⟨rfl,rfl⟩:=he
      try have hl1 : ¬ 20 ≤ (l0.filter (freshB a2)).length:=by omega
      try have hl2 : 20 ≤ (l0.filter (freshB a2)).length:=by omega
      try have hd1 : decide ((20 : Int) ≤ ((l0.filter (freshB a2)).length : Int)) = false:=by simp;omega
      try have hd2 : decide ((20 : Int) ≤ ((l0.filter (freshB a2)).length : Int)) = true:=by simp;omega
      go_enter Try.func97,Try.ntmps97
      go_wp2_with (first|(go_at_call 149;refine (cloneSeals.calls A0 c0 l0 _ (Kd.C_below HR.out ?bw) HP.out.2.2).mono ?_;(case bw=>repeat (first|exact Below.refl _ _|apply below_alloc));rintro e w1 ⟨v1,rfl,ho1,hb1⟩; have HB1:=Aside0.mk (below_step (show Below w.heap.size w _ from by repeat (first|exact Below.refl _ _|apply below_alloc)) hb1);have HA1:=Aside0.mk (blkB hb1 (blkA (blkA (blkNew w #[.int .i64 qg,.int .i64 qf,.int .i64 qe,.int .i64 qd,.int .i64 qc,.int .i64 qb,.int .i64 qa] 41) (.cells #[.int .i64 a2] 3)) (.cells #[.func (Fn.func 147) #[] #[.pointer (some ⟨w.heap.size + 1,0,none⟩)]] 44)));have HN1:=Aside0.mk (show w1.heap[w.heap.size + 1]? = some (.cells #[.int .i64 a2] 3 (0,0)) from blkB hb1 (blkA (by simpa using blkNew (w.alloc (.cells #[.int .i64 qg,.int .i64 qf,.int .i64 qe,.int .i64 qd,.int .i64 qc,.int .i64 qb,.int .i64 qa] 41)) #[.int .i64 a2] 3) _));have HF1:=Aside0.mk (show w1.heap[w.heap.size + 1 + 1]? = some (.cells #[.func (Fn.func 147) #[] #[.pointer (some ⟨w.heap.size + 1,0,none⟩)]] 44 (0,0)) from blkB hb1 (by simpa using blkNew ((w.alloc (.cells #[.int .i64 qg,.int .i64 qf,.int .i64 qe,.int .i64 qd,.int .i64 qc,.int .i64 qb,.int .i64 qa] 41)).alloc (.cells #[.int .i64 a2] 3)) #[.func (Fn.func 147) #[] #[.pointer (some ⟨w.heap.size + 1,0,none⟩)]] 44));have HO1:=Aside0.mk (show Kd.R k41 41 w1 (w.heap.size + 1 + 1 + 1) (fun _=>True) v1 l0 from by simpa using ho1);have HZ1:=Aside0.mk (show w.heap.size + 1 + 1 + 1 ≤ w1.heap.size from by simpa using hb1.size);clear ho1 hb1)|(go_at_call 148;refine (deleteStale.calls v1 l0 (w.heap.size + 1 + 1) (w.heap.size + 1) (w.heap.size + 1 + 1 + 1) a2 _ HO1.out HZ1.out HF1.out HN1.out (sealsApart HO1.out (by omega)) (sealsApart HO1.out (by omega)) HP.out.1 HP.out.2.1 HP.out.2.2).mono ?_;rintro e w2 ⟨v2,rfl,ho2,hb2,hg2⟩; have HB2:=Aside0.mk (HB1.out.trans (hb2.mono (show w.heap.size ≤ w.heap.size + 1 + 1 + 1 by omega)));have HA2:=Aside0.mk ((hb2.block w.heap.size (by omega)).trans HA1.out);have HN2:=Aside0.mk ((hb2.block (w.heap.size + 1) (by omega)).trans HN1.out);obtain ⟨hy0,hy1,hy2,hy3,hy4,hy5,hy6⟩:=seven HA2.out;have hcf:=blk_cell ((hb2.block (w.heap.size + 1 + 1) (by omega)).trans HF1.out) 0;obtain ⟨A2,c2,e2,qk,hC2⟩:=Kd.R_reads ho2;subst e2;have HO2:=Aside0.mk (Kd.R_lower ho2 (show w.heap.size ≤ w.heap.size + 1 + 1 + 1 by omega));have qm:=Aside0.mk qk;clear ho2 hb2 hg2 hC2 qk)|(go_at_call 147;refine (freshTest.calls (⟨qg,qf,qe,qd,qc,qb,qa⟩ : S41) (w.heap.size + 1) a2 _ HN2.out HP.out.1 HP.out.2.1).mono ?_;rintro e w3 ⟨rfl,hb3⟩; rw [HS.out];have HB3:=Aside0.mk (below_step HB2.out hb3);have HO3:=Aside0.mk (Kd.R_below HO2.out hb3);have HA3:=Aside0.mk (blkB hb3 HA2.out);clear hy0 hy1 hy2 hy3 hy4 hy5 hy6 hb3;obtain ⟨hy0,hy1,hy2,hy3,hy4,hy5,hy6⟩:=seven HA3.out)|(go_at_call 146;refine (impl_Seal_146.calls kc A2 c2 (l0.filter (freshB a2)) qg qf qe qd qc qb qa _ _ (Kd.R_reads' HO3.out).2.2 qm.out HK.out).mono ?_;rintro e w4 ⟨rfl,hb4⟩; rw [HM.out];have HB4:=Aside0.mk (below_step HB3.out hb4);have HO4:=Aside0.mk (Kd.R_below HO3.out hb4);have HA4:=Aside0.mk (blkB hb4 HA3.out);clear hy0 hy1 hy2 hy3 hy4 hy5 hy6 hb4;obtain ⟨hy0,hy1,hy2,hy3,hy4,hy5,hy6⟩:=seven HA4.out)|(go_at_call 151;refine (clipSeals.calls _ _ _ _ ?cl).mono ?_;(case cl=>first|exact qm.out|exact qo.out);rintro e w6 ⟨rfl,rfl⟩)|((with_reducible refine gate_builtin (b:=.append) (xs:=#[.tmp 31,.tmp 33]) rfl ?_);at_builtin;refine Kd.R_append k41 (w0:=w) w.heap.size rfl (.tmp 31) (.tmp 33) 32 41 (.agg #[(.int .i64 0),(.int .i64 0),(.int .i64 0),(.int .i64 0),(.int .i64 0),(.int .i64 0),(.int .i64 0)]) 56 rfl Try.underlying32 info41 rfl (by decide) (by omega) _ (l0.filter (freshB a2)) (⟨qg,qf,qe,qd,qc,qb,qa⟩ : S41) [.int .i64 qg,.int .i64 qf,.int .i64 qe,.int .i64 qd,.int .i64 qc,.int .i64 qb,.int .i64 qa] (fun _=>True) (fun _=>False) rfl rfl ?aP (fun _ hk=>hk.elim) ?aF ?aO ?aB ?aS ?aL ?_;(case aP=>exact k41_mkM _ _ _ (⟨qg,qf,qe,qd,qc,qb,qa⟩ : S41));(case aB=>exact HB4.out);(case aF=>exact fun _ _=>trivial);(case aO=>exact HO4.out);(case aS=>exact HB4.out.size);(case aL=>have:=HLF.out;omega);intro v5 w5 ho5 hb5 hg5 qn;obtain ⟨A5,c5,e5,qj,hC5⟩:=Kd.R_reads ho5;subst e5;simp only [List.length_append,List.length_cons,List.length_nil,Nat.zero_add] at qj ho5;have HO5:=Aside0.mk ho5;have qo:=Aside0.mk qj;have HB5:=Aside0.mk hb5;clear ho5 hb5 hg5 qn hC5 qj))
      go_ret2
      first
        | (refine ⟨_,_,rfl,?_,HO5.out,HB5.out⟩; intro _ _ _ e_;cases e_;rfl)
        | (refine ⟨_,_,rfl,?_,HO4.out,HB4.out⟩; intro _ _ _ e_;cases e_;rfl)
        | (refine ⟨_,_,rfl,?_,HO3.out,HB3.out⟩; intro _ _ _ e_;cases e_;rfl)

end Go.Proofs.Ytbipicjijbnbbaa.Hp
