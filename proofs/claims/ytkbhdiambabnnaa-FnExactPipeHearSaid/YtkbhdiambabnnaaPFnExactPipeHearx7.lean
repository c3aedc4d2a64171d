-- Written by a program of this session (wip/ep), out of the translation. Lean checks it.
import Derived.Test.YtkbhdiambabnnaaPFnExactPipeHearx0
import Derived.Test.YtkbhdiambabnnaaPFnExactPipeHearx1
import Derived.Test.YtkbhdiambabnnaaPFnExactPipeHearx2
import Derived.Test.YtkbhdiambabnnaaPFnExactPipeHearx5
import Derived.Test.YtkbhdiambabnnaaPFnExactPipeHearx6
namespace Go.Proofs.Ytkbhdiambabnnaa.PFnExactPipeHear
open Go.RowKit Go.Proofs.YtkbhdiambabnnaaW.PrintWords Go.Proofs.YtkbhdiambabnnaaW.PrintLast Go.Proofs.YtkbhdiambabnnaaW.PrintMore
attribute [local go_sem] max2_int min2_int max_two min_two max_three min_three max_four min_four   -- for this text's walks alone
set_option linter.unusedVariables false
set_option linter.unusedSimpArgs false

/-! ### laws_FnExactPipeHear: function 14 -/
def laws_FnExactPipeHear.f (k : Nat) (a0_0 a0_1 a0_2 a0_3 : Int) (l0_4 : List ByteArray) (a1_0 a1_1 a1_2 a1_3 : Int) (a1_4 : ByteArray) : Option Bool :=
  (laws_szPipe.f k a0_0 a0_1 a0_2 a0_3 l0_4 1048576).bind fun t1 => if t1 < 0 then some true else
  (laws_szPacket.f a1_0 a1_1 a1_2 a1_3 a1_4 t1).bind fun t2 => if t2 < 0 then some true else
  (laws_toPipe.f k a0_0 a0_1 a0_2 a0_3 l0_4).bind fun p => (laws_toPacket.f a1_0 a1_1 a1_2 a1_3 a1_4).bind fun y =>
  (spec_PipeHear.f k p.1 p.2.1 p.2.2.1 p.2.2.2.1 p.2.2.2.2 y.1 y.2.1 y.2.2.1 y.2.2.2.1 y.2.2.2.2).bind fun s =>
  (impl_PipeHear.f p.1 p.2.1 p.2.2.1 p.2.2.2.1 p.2.2.2.2 y.1 y.2.1 y.2.2.1 y.2.2.2.1 y.2.2.2.2).bind fun g =>
  (laws_eqPipeOut.f k g.1 g.2.1 g.2.2.1 g.2.2.2.1 g.2.2.2.2.1 g.2.2.2.2.2.1 g.2.2.2.2.2.2.1 g.2.2.2.2.2.2.2 s.1 s.2.1 s.2.2.1 s.2.2.2.1 s.2.2.2.2.1 s.2.2.2.2.2.1 s.2.2.2.2.2.2.1 s.2.2.2.2.2.2.2).bind fun e1 => if e1 = true then
  (laws_eqPipe.f k p.1 p.2.1 p.2.2.1 p.2.2.2.1 p.2.2.2.2 p.1 p.2.1 p.2.2.1 p.2.2.2.1 p.2.2.2.2).bind fun e2 => if e2 = true then
  (laws_markPipe.f k p.1 p.2.1 p.2.2.1 p.2.2.2.1 p.2.2.2.2 1).bind fun m1 => if m1.1 < 0 then some false else
  (laws_markPipeOut.f k g.1 g.2.1 g.2.2.1 g.2.2.2.1 g.2.2.2.2.1 g.2.2.2.2.2.1 g.2.2.2.2.2.2.1 g.2.2.2.2.2.2.2 1).bind fun m =>
  (laws_heldPipeOut.f k g.1 g.2.1 g.2.2.1 g.2.2.2.1 m.2.1 m.2.2 g.2.2.2.2.2.2.1 g.2.2.2.2.2.2.2 1).bind fun q => if q < 0 then some false else if q = m.1 then some true else some false
  else some false else some false
theorem laws_FnExactPipeHear.gen {P : Program} {c : Code} {Q : Exit → Act → World → Prop} {a : Act} {W : World} (p : World → Prop) (h : p W) (k : ∀ W1, p W1 → Code.wp P c Q a W1) : Code.wp P c Q a W := k W h
theorem laws_FnExactPipeHear.two (w : World) (pc xc : Array Value) : ((w.alloc (.cells pc 84)).alloc (.cells xc 32)).heap[w.heap.size]? = some (.cells pc 84 (0, 0)) ∧ ((w.alloc (.cells pc 84)).alloc (.cells xc 32)).heap[w.heap.size + 1]? = some (.cells xc 32 (0, 0)) ∧ Below w.heap.size w ((w.alloc (.cells pc 84)).alloc (.cells xc 32)) :=
  ⟨blk_alloc (blk_new w _) _, by simpa using heap_alloc_new (w.alloc (.cells pc 84)) (.cells xc 32), below_alloc (below_alloc (Below.refl _ _) _) _⟩
theorem laws_FnExactPipeHear.fin5 {W : World} {g : Nat} {o0 o1 o2 o3 o4 : Value} (h : W.heap[g]? = some (.cells #[o0, o1, o2, o3, o4] 24 (0, 0))) (v0 v1 v2 v3 v4 : Value) : (((((W.setCell ⟨g, 0, none⟩ v0).setCell ⟨g, 1, none⟩ v1).setCell ⟨g, 2, none⟩ v2).setCell ⟨g, 3, none⟩ v3).setCell ⟨g, 4, none⟩ v4).heap[g]? = some (.cells #[v0, v1, v2, v3, v4] 24 (0, 0)) := by
  have h1 := blk_set h 0 v0
  have h2 := blk_set h1 1 v1
  have h3 := blk_set h2 2 v2
  have h4 := blk_set h3 3 v3
  have h5 := blk_set h4 4 v4
  simpa using h5
theorem laws_FnExactPipeHear.ok_ {α : Type} {d : Kd α} {e base : Nat} {w : World} {ok : Nat → Prop} {v : Value} {xs : List α} (h : d.R e w base ok v xs) : ∀ k, v.ownBlock = some k → ok k := h.1
theorem laws_FnExactPipeHear.blk_kept {w W : World} {g : Nat} {o : Obj} {S : Nat → Prop} (h : w.heap[g]? = some o) (hk : Kept w W S) (hn : ¬ S g) : W.heap[g]? = some o := (hk.2 g (blk_lt h) hn).trans h
set_option maxHeartbeats 3200000 in
set_option maxRecDepth 100000 in
theorem laws_FnExactPipeHear.calls (k : Nat) (a0_0 : Int) (a0_1 : Int) (a0_2 : Int) (a0_3 : Int) (A0_4 : Option Addr) (c0_4 : Nat) (l0_4 : List ByteArray) (a1_0 : Int) (a1_1 : Int) (a1_2 : Int) (a1_3 : Int) (a1_4 : ByteArray) (r : Bool) (w : World) (hr0_4 : Kd.C Kd.string w A0_4 l0_4.length l0_4) (hc0_4 : l0_4.length ≤ c0_4) (hT : Aside0 (r = true)) (h : laws_FnExactPipeHear.f k a0_0 a0_1 a0_2 a0_3 l0_4 a1_0 a1_1 a1_2 a1_3 a1_4 = some r) :
    Calls Try.prog 14 #[.agg #[.int .i64 a0_0, .int .i64 a0_1, .int .i64 a0_2, .int .i64 a0_3, .slice A0_4 l0_4.length c0_4], .agg #[.int .i64 a1_0, .int .i64 a1_1, .int .i64 a1_2, .int .i64 a1_3, .string a1_4]] w fun e w' => e = .returned (.bool r) ∧ Below w.heap.size w w' := by
  obtain rfl := hT.out
  clear hT
  have HR := Aside0.mk hr0_4
  have HC := Aside0.mk hc0_4
  clear hr0_4 hc0_4
  have huTA := Try.underlying84
  have huTX := Try.underlying32
  have huTO := Try.underlying26
  have huTI := Try.underlying24
  unfold laws_FnExactPipeHear.f at h
  replace h := Option.bind_eq_some_iff.mp h
  obtain ⟨t1, q, h⟩ := h
  have Q1 := Aside0.mk q
  clear q
  have H := Aside0.mk h
  clear h
  have W0s := Aside0.mk (laws_FnExactPipeHear.two w #[.int .i64 a0_0, .int .i64 a0_1, .int .i64 a0_2, .int .i64 a0_3, .slice A0_4 l0_4.length c0_4] #[.int .i64 a1_0, .int .i64 a1_1, .int .i64 a1_2, .int .i64 a1_3, .string a1_4])
  go_enter Try.func14, Try.ntmps14
  go_upto_region 2 with (fail)
  refine laws_FnExactPipeHear.gen (fun W => W.heap[w.heap.size]? = some (.cells #[.int .i64 a0_0, .int .i64 a0_1, .int .i64 a0_2, .int .i64 a0_3, .slice A0_4 l0_4.length c0_4] 84 (0, 0)) ∧ W.heap[w.heap.size + 1]? = some (.cells #[.int .i64 a1_0, .int .i64 a1_1, .int .i64 a1_2, .int .i64 a1_3, .string a1_4] 32 (0, 0)) ∧ Below w.heap.size w W) W0s.out ?_
  clear W0s
  rintro W1 ⟨fa, fx, bl⟩
  have FA := Aside0.mk fa
  have FX := Aside0.mk fx
  have BL := Aside0.mk bl
  clear fa fx bl
  have ca0 := (blk_cell FA.out 0).trans rfl
  have ca1 := (blk_cell FA.out 1).trans rfl
  have ca2 := (blk_cell FA.out 2).trans rfl
  have ca3 := (blk_cell FA.out 3).trans rfl
  have ca4 := (blk_cell FA.out 4).trans rfl
  go_wp2_with fail
  go_at_call 56
  with_reducible refine (laws_szPipe.calls k a0_0 a0_1 a0_2 a0_3 A0_4 c0_4 l0_4 1048576 t1 _ (Kd.C_below HR.out BL.out) HC.out Q1.out).mono ?_
  rintro e w2 ⟨rfl, hb⟩
  clear ca0 ca1 ca2 ca3 ca4
  replace FA := Aside0.mk (blk_below FA.out hb)
  replace FX := Aside0.mk (blk_below FX.out hb)
  replace BL := Aside0.mk (below_step BL.out hb)
  clear hb
  have h := H.out
  clear H
  by_cases c1 : t1 < 0
  · have d1 : decide (t1 < 0) = true := decide_eq_true c1
    clear h c1
    go_wp2_with fail
    go_ret
    exact ⟨rfl, BL.out⟩
  rw [if_neg c1] at h
  have d1 : decide (t1 < 0) = false := decide_eq_false c1
  clear c1
  replace h := Option.bind_eq_some_iff.mp h
  obtain ⟨t2, q, h⟩ := h
  have Q2 := Aside0.mk q
  clear q
  have H := Aside0.mk h
  clear h
  have cx0 := (blk_cell FX.out 0).trans rfl
  have cx1 := (blk_cell FX.out 1).trans rfl
  have cx2 := (blk_cell FX.out 2).trans rfl
  have cx3 := (blk_cell FX.out 3).trans rfl
  have cx4 := (blk_cell FX.out 4).trans rfl
  go_wp2_with fail
  go_at_call 20
  with_reducible refine (laws_szPacket.calls a1_0 a1_1 a1_2 a1_3 a1_4 t1 t2 _ Q2.out).mono ?_
  rintro e w3 ⟨rfl, hb⟩
  clear cx0 cx1 cx2 cx3 cx4
  replace FA := Aside0.mk (blk_below FA.out hb)
  replace FX := Aside0.mk (blk_below FX.out hb)
  replace BL := Aside0.mk (below_step BL.out hb)
  clear hb
  have h := H.out
  clear H
  by_cases c2 : t2 < 0
  · have d2 : decide (t2 < 0) = true := decide_eq_true c2
    clear h c2
    go_wp2_with fail
    go_ret
    exact ⟨rfl, BL.out⟩
  rw [if_neg c2] at h
  have d2 : decide (t2 < 0) = false := decide_eq_false c2
  clear c2
  replace h := Option.bind_eq_some_iff.mp h
  obtain ⟨⟨p0, p1, p2, p3, pl⟩, q, h⟩ := h
  have QP := Aside0.mk q
  clear q
  replace h := Option.bind_eq_some_iff.mp h
  obtain ⟨⟨y0, y1, y2, y3, y4⟩, q, h⟩ := h
  have QY := Aside0.mk q
  clear q
  replace h := Option.bind_eq_some_iff.mp h
  obtain ⟨⟨s0, s1, s2, s3, s4, s5, s6, s7⟩, q, h⟩ := h
  have QS := Aside0.mk q
  clear q
  replace h := Option.bind_eq_some_iff.mp h
  obtain ⟨⟨g0, g1, g2, g3, g4, g5, g6, g7⟩, q, h⟩ := h
  have QG := Aside0.mk q
  clear q
  replace h := Option.bind_eq_some_iff.mp h
  obtain ⟨e1, q, h⟩ := h
  have QE := Aside0.mk q
  clear q
  by_cases ce1 : e1 = true
  rotate_left
  · rw [if_neg ce1] at h; exact absurd (Option.some.inj h) (by decide)
  rw [if_pos ce1] at h
  subst ce1
  replace h := Option.bind_eq_some_iff.mp h
  obtain ⟨e2, q, h⟩ := h
  have QE2 := Aside0.mk q
  clear q
  by_cases ce2 : e2 = true
  rotate_left
  · rw [if_neg ce2] at h; exact absurd (Option.some.inj h) (by decide)
  rw [if_pos ce2] at h
  subst ce2
  replace h := Option.bind_eq_some_iff.mp h
  obtain ⟨⟨m1, ml⟩, q, h⟩ := h
  have QM1 := Aside0.mk q
  clear q
  by_cases cm1 : m1 < 0
  · rw [if_pos cm1] at h; exact absurd (Option.some.inj h) (by decide)
  rw [if_neg cm1] at h
  replace h := Option.bind_eq_some_iff.mp h
  obtain ⟨⟨m, mg4, mg5⟩, q, h⟩ := h
  have QM := Aside0.mk q
  clear q
  replace h := Option.bind_eq_some_iff.mp h
  obtain ⟨q, q, h⟩ := h
  have QH := Aside0.mk q
  clear q
  by_cases cq : q < 0
  · rw [if_pos cq] at h; exact absurd (Option.some.inj h) (by decide)
  rw [if_neg cq] at h
  by_cases cqm : q = m
  rotate_left
  · rw [if_neg cqm] at h; exact absurd (Option.some.inj h) (by decide)
  rw [if_pos cqm] at h
  subst cqm
  clear h
  dsimp only at QS QG QE QE2 QM1 QM QH
  go_upto_region 8 with (fail)
  refine start_ (n := 7) (S := fun w' => Below w3.heap.size w3 w') (ds := []) #[false, false, false, false, false, false, false] (by kernel_rfl) rfl rfl (below_drew1 (Below.refl _ _)) (fun hHeld => ?_)
  have BW := Aside0.mk (show Below w3.heap.size w3 w3.drew from below_drew1 (Below.refl _ _))
  generalize w3.drew = W_ at BW hHeld ⊢
  refine take_ (i := 0) (N := some 23) (v := ?_) (a' := ?_) #[true, false, false, false, false, false, false] rfl rfl (by kernel_rfl) (fun _ _ _ h => h) (Or.inl ⟨by rfl, ?_⟩) hHeld ?_ ?_
  rotate_left
  · intro w' s0
    have cb0 := (blk_cell (blk_below FA.out s0) 0).trans rfl
    have cb1 := (blk_cell (blk_below FA.out s0) 1).trans rfl
    have cb2 := (blk_cell (blk_below FA.out s0) 2).trans rfl
    have cb3 := (blk_cell (blk_below FA.out s0) 3).trans rfl
    have cb4 := (blk_cell (blk_below FA.out s0) 4).trans rfl
    go_simp
    with_reducible rfl
  rotate_left
  · simp only [Act.put, List.setIfInBounds_toArray, List.set_cons_zero, List.set_cons_succ, i64_w, i32_w]
    rfl
  refine take_ (i := 2) (N := some 25) (v := ?_) (a' := ?_) #[true, false, true, false, false, false, false] rfl rfl (by kernel_rfl) (fun _ _ _ h => h) (Or.inl ⟨by rfl, ?_⟩) hHeld ?_ ?_
  rotate_left
  · intro w' s0
    have cb0 := (blk_cell (blk_below FX.out s0) 0).trans rfl
    have cb1 := (blk_cell (blk_below FX.out s0) 1).trans rfl
    have cb2 := (blk_cell (blk_below FX.out s0) 2).trans rfl
    have cb3 := (blk_cell (blk_below FX.out s0) 3).trans rfl
    have cb4 := (blk_cell (blk_below FX.out s0) 4).trans rfl
    go_simp
    with_reducible rfl
  rotate_left
  · simp only [Act.put, List.setIfInBounds_toArray, List.set_cons_zero, List.set_cons_succ, i64_w, i32_w]
    rfl
  refine join_ (σ := Value × Value × Value × Nat) 1 #[true, true, true, true, true, true, false] (fun s_ => [(24, .agg #[.int .i64 p0, .int .i64 p1, .int .i64 p2, .int .i64 p3, s_.1]), (26, .agg #[.int .i64 y0, .int .i64 y1, .int .i64 y2, .int .i64 y3, .string y4]), (27, .agg #[.int .i64 s0, .int .i64 s1, .int .i64 s2, .int .i64 s3, s_.2.1, s_.2.2.1, .bool s6, .int .i64 s7]), (6, .pointer (some ⟨s_.2.2.2, 0, none⟩))]) (fun s_ w' => Below w3.heap.size w3 w' ∧ (w3.heap.size ≤ s_.2.2.2) ∧ (w'.heap[s_.2.2.2]? = some (.cells #[.int .i64 0, .int .i64 0, .int .i64 0, .int .i64 0, .slice none 0 0, .slice none 0 0, .bool false, .int .i64 0] 26 (0, 0))) ∧ (Kd.R Kd.string 9 w' w3.heap.size (fun k_ => some k_ ≠ (s_.2.2.1 : Value).ownBlock) s_.2.1 s4) ∧ (Kd.R Kd.string 9 w' w3.heap.size (fun k_ => some k_ ≠ (s_.2.1 : Value).ownBlock) s_.2.2.1 s5)) ?_ (fun hCont => ?_)
  rotate_left
  · skip
    refine two_ (i := 1) (j := 5) (Ni := some 24) (Nj := some 6) #[true, true, true, false, false, false, false] #[true, false, true, false, false, true, false] rfl rfl rfl rfl (by kernel_rfl) (by decide) (by decide) (fun K hK => ?_) (fun K hK => ?_)
    · skip
      refine goes_ Try.func58 (by kernel_rfl) rfl #[.agg #[.int .i64 a0_0, .int .i64 a0_1, .int .i64 a0_2, .int .i64 a0_3, .slice A0_4 l0_4.length c0_4]] (by rfl) rfl rfl (by (try simp only [List.map_toArray, List.map_cons, List.map_nil]); first | done | rfl | (simp only [List.length_drop, List.length_take]; rfl)) ?_
      with_reducible refine (laws_toPipe.calls k a0_0 a0_1 a0_2 a0_3 A0_4 c0_4 l0_4 p0 p1 p2 p3 pl _ (Kd.C_below HR.out (below_step BL.out BW.out)) HC.out QP.out).mono ?_
      rintro e w_ ⟨vp, rfl, ho, hb⟩
      obtain ⟨Ap, cp, rfl⟩ := Kd.R_slice ho
      refine ⟨_, rfl, ?_⟩
      have HP := Aside0.mk (ho)
      replace BW := Aside0.mk (below_step BW.out hb)
      clear hb
      refine hK.out _ _ BW.out (fun hHeld => ?_)
      clear hK K
      refine norm_ (a' := ?_) ?_ ?_
      rotate_left
      · show Act.put _ (some 24) _ = _
        simp only [Act.put, List.setIfInBounds_toArray, List.set_cons_zero, List.set_cons_succ, i64_w, i32_w]
        rfl
      refine two_ (i := 3) (j := 5) (Ni := some 26) (Nj := some 6) #[true, true, true, true, false, false, false] #[true, true, true, false, false, true, false] rfl rfl rfl rfl (by kernel_rfl) (by decide) (by decide) (fun K hK => ?_) (fun K hK => ?_)
      · skip
        refine goes_ Try.func22 (by kernel_rfl) rfl #[.agg #[.int .i64 a1_0, .int .i64 a1_1, .int .i64 a1_2, .int .i64 a1_3, .string a1_4]] (by rfl) rfl rfl (by (try simp only [List.map_toArray, List.map_cons, List.map_nil]); first | done | rfl | (simp only [List.length_drop, List.length_take]; rfl)) ?_
        with_reducible refine (laws_toPacket.calls a1_0 a1_1 a1_2 a1_3 a1_4 y0 y1 y2 y3 y4 _ QY.out).mono ?_
        rintro e w_ ⟨rfl, hb⟩
        refine ⟨_, rfl, ?_⟩
        replace BW := Aside0.mk (below_step BW.out hb)
        replace HP := Aside0.mk (Kd.R_below HP.out hb)
        clear hb
        refine hK.out _ _ BW.out (fun hHeld => ?_)
        clear hK K
        refine norm_ (a' := ?_) ?_ ?_
        rotate_left
        · show Act.put _ (some 26) _ = _
          simp only [Act.put, List.setIfInBounds_toArray, List.set_cons_zero, List.set_cons_succ, i64_w, i32_w]
          rfl
        refine two_ (i := 4) (j := 5) (Ni := some 27) (Nj := some 6) #[true, true, true, true, true, false, false] #[true, true, true, true, false, true, false] rfl rfl rfl rfl (by kernel_rfl) (by decide) (by decide) (fun K hK => ?_) (fun K hK => ?_)
        · skip
          refine goes_ Try.func74 (by kernel_rfl) rfl #[.agg #[.int .i64 p0, .int .i64 p1, .int .i64 p2, .int .i64 p3, .slice Ap pl.length cp], .agg #[.int .i64 y0, .int .i64 y1, .int .i64 y2, .int .i64 y3, .string y4]] (by rfl) rfl rfl (by (try simp only [List.map_toArray, List.map_cons, List.map_nil]); first | done | rfl | (simp only [List.length_drop, List.length_take]; rfl)) ?_
          with_reducible refine (spec_PipeHear.calls k p0 p1 p2 p3 Ap cp pl y0 y1 y2 y3 y4 s0 s1 s2 s3 s4 s5 s6 s7 _ ((Kd.R_reads' HP.out).2.2) (Kd.R_reads' HP.out).2.1 QS.out).mono ?_
          rintro e w_ ⟨v4, v5, rfl, ho4, ho5, hb⟩
          refine ⟨_, rfl, ?_⟩
          have N4 := Aside0.mk (Kd.R_lower ho4 BW.out.size)
          have N5 := Aside0.mk (Kd.R_lower ho5 BW.out.size)
          replace BW := Aside0.mk (below_step BW.out hb)
          replace HP := Aside0.mk (Kd.R_below HP.out hb)
          clear hb
          refine hK.out _ _ BW.out (fun hHeld => ?_)
          clear hK K
          refine norm_ (a' := ?_) ?_ ?_
          rotate_left
          · show Act.put _ (some 27) _ = _
            simp only [Act.put, List.setIfInBounds_toArray, List.set_cons_zero, List.set_cons_succ, i64_w, i32_w]
            rfl
          refine one_ (i := 5) (N := some 6) #[true, true, true, true, true, true, false] rfl rfl (by kernel_rfl) (by decide) (fun K hK => ?_)
          refine box_step ?hg (N := 6) ?hd (cs := #[.int .i64 0, .int .i64 0, .int .i64 0, .int .i64 0, .slice none 0 0, .slice none 0 0, .bool false, .int .i64 0]) (t := 26) ?hr ?_; (case hd => rfl); (case hg => rfl); (case hr => first | (go_simp; done) | (go_simp; rfl))
          intro gb_ hg w_ hbox hb
          have GB := Aside0.mk (show w3.heap.size ≤ gb_ by rw [hg]; exact BW.out.size)
          have B_ := Aside0.mk hbox
          clear hbox hg
          replace BW := Aside0.mk (below_step BW.out hb)
          replace HP := Aside0.mk (Kd.R_below HP.out hb)
          replace N4 := Aside0.mk (Kd.R_below N4.out hb)
          replace N5 := Aside0.mk (Kd.R_below N5.out hb)
          clear hb
          refine hK.out _ _ BW.out (fun hHeld => ?_)
          clear hK K
          refine norm_ (a' := ?_) ?_ ?_
          rotate_left
          · show Act.put _ (some 6) _ = _
            simp only [Act.put, List.setIfInBounds_toArray, List.set_cons_zero, List.set_cons_succ, i64_w, i32_w]
            rfl
          exact norm_ (by simp only [putAll, Act.put, List.setIfInBounds_toArray, List.set_cons_zero, List.set_cons_succ]) (hCont (.slice Ap pl.length cp, v4, v5, gb_) _ ⟨BW.out, GB.out, B_.out, N4.out, N5.out⟩)
        · skip
          refine box_step ?hg (N := 6) ?hd (cs := #[.int .i64 0, .int .i64 0, .int .i64 0, .int .i64 0, .slice none 0 0, .slice none 0 0, .bool false, .int .i64 0]) (t := 26) ?hr ?_; (case hd => rfl); (case hg => rfl); (case hr => first | (go_simp; done) | (go_simp; rfl))
          intro gb_ hg w_ hbox hb
          have GB := Aside0.mk (show w3.heap.size ≤ gb_ by rw [hg]; exact BW.out.size)
          have B_ := Aside0.mk hbox
          clear hbox hg
          replace BW := Aside0.mk (below_step BW.out hb)
          replace HP := Aside0.mk (Kd.R_below HP.out hb)
          clear hb
          refine hK.out _ _ BW.out (fun hHeld => ?_)
          clear hK K
          refine norm_ (a' := ?_) ?_ ?_
          rotate_left
          · show Act.put _ (some 6) _ = _
            simp only [Act.put, List.setIfInBounds_toArray, List.set_cons_zero, List.set_cons_succ, i64_w, i32_w]
            rfl
          refine one_ (i := 4) (N := some 27) #[true, true, true, true, true, true, false] rfl rfl (by kernel_rfl) (by decide) (fun K hK => ?_)
          refine goes_ Try.func74 (by kernel_rfl) rfl #[.agg #[.int .i64 p0, .int .i64 p1, .int .i64 p2, .int .i64 p3, .slice Ap pl.length cp], .agg #[.int .i64 y0, .int .i64 y1, .int .i64 y2, .int .i64 y3, .string y4]] (by rfl) rfl rfl (by (try simp only [List.map_toArray, List.map_cons, List.map_nil]); first | done | rfl | (simp only [List.length_drop, List.length_take]; rfl)) ?_
          with_reducible refine (spec_PipeHear.calls k p0 p1 p2 p3 Ap cp pl y0 y1 y2 y3 y4 s0 s1 s2 s3 s4 s5 s6 s7 _ ((Kd.R_reads' HP.out).2.2) (Kd.R_reads' HP.out).2.1 QS.out).mono ?_
          rintro e w_ ⟨v4, v5, rfl, ho4, ho5, hb⟩
          refine ⟨_, rfl, ?_⟩
          have N4 := Aside0.mk (Kd.R_lower ho4 BW.out.size)
          have N5 := Aside0.mk (Kd.R_lower ho5 BW.out.size)
          replace BW := Aside0.mk (below_step BW.out hb)
          replace HP := Aside0.mk (Kd.R_below HP.out hb)
          replace B_ := Aside0.mk (blk_below B_.out hb)
          clear hb
          refine hK.out _ _ BW.out (fun hHeld => ?_)
          clear hK K
          refine norm_ (a' := ?_) ?_ ?_
          rotate_left
          · show Act.put _ (some 27) _ = _
            simp only [Act.put, List.setIfInBounds_toArray, List.set_cons_zero, List.set_cons_succ, i64_w, i32_w]
            rfl
          exact norm_ (by simp only [putAll, Act.put, List.setIfInBounds_toArray, List.set_cons_zero, List.set_cons_succ]) (hCont (.slice Ap pl.length cp, v4, v5, gb_) _ ⟨BW.out, GB.out, B_.out, N4.out, N5.out⟩)
      · skip
        refine box_step ?hg (N := 6) ?hd (cs := #[.int .i64 0, .int .i64 0, .int .i64 0, .int .i64 0, .slice none 0 0, .slice none 0 0, .bool false, .int .i64 0]) (t := 26) ?hr ?_; (case hd => rfl); (case hg => rfl); (case hr => first | (go_simp; done) | (go_simp; rfl))
        intro gb_ hg w_ hbox hb
        have GB := Aside0.mk (show w3.heap.size ≤ gb_ by rw [hg]; exact BW.out.size)
        have B_ := Aside0.mk hbox
        clear hbox hg
        replace BW := Aside0.mk (below_step BW.out hb)
        replace HP := Aside0.mk (Kd.R_below HP.out hb)
        clear hb
        refine hK.out _ _ BW.out (fun hHeld => ?_)
        clear hK K
        refine norm_ (a' := ?_) ?_ ?_
        rotate_left
        · show Act.put _ (some 6) _ = _
          simp only [Act.put, List.setIfInBounds_toArray, List.set_cons_zero, List.set_cons_succ, i64_w, i32_w]
          rfl
        refine one_ (i := 3) (N := some 26) #[true, true, true, true, false, true, false] rfl rfl (by kernel_rfl) (by decide) (fun K hK => ?_)
        refine goes_ Try.func22 (by kernel_rfl) rfl #[.agg #[.int .i64 a1_0, .int .i64 a1_1, .int .i64 a1_2, .int .i64 a1_3, .string a1_4]] (by rfl) rfl rfl (by (try simp only [List.map_toArray, List.map_cons, List.map_nil]); first | done | rfl | (simp only [List.length_drop, List.length_take]; rfl)) ?_
        with_reducible refine (laws_toPacket.calls a1_0 a1_1 a1_2 a1_3 a1_4 y0 y1 y2 y3 y4 _ QY.out).mono ?_
        rintro e w_ ⟨rfl, hb⟩
        refine ⟨_, rfl, ?_⟩
        replace BW := Aside0.mk (below_step BW.out hb)
        replace HP := Aside0.mk (Kd.R_below HP.out hb)
        replace B_ := Aside0.mk (blk_below B_.out hb)
        clear hb
        refine hK.out _ _ BW.out (fun hHeld => ?_)
        clear hK K
        refine norm_ (a' := ?_) ?_ ?_
        rotate_left
        · show Act.put _ (some 26) _ = _
          simp only [Act.put, List.setIfInBounds_toArray, List.set_cons_zero, List.set_cons_succ, i64_w, i32_w]
          rfl
        refine one_ (i := 4) (N := some 27) #[true, true, true, true, true, true, false] rfl rfl (by kernel_rfl) (by decide) (fun K hK => ?_)
        refine goes_ Try.func74 (by kernel_rfl) rfl #[.agg #[.int .i64 p0, .int .i64 p1, .int .i64 p2, .int .i64 p3, .slice Ap pl.length cp], .agg #[.int .i64 y0, .int .i64 y1, .int .i64 y2, .int .i64 y3, .string y4]] (by rfl) rfl rfl (by (try simp only [List.map_toArray, List.map_cons, List.map_nil]); first | done | rfl | (simp only [List.length_drop, List.length_take]; rfl)) ?_
        with_reducible refine (spec_PipeHear.calls k p0 p1 p2 p3 Ap cp pl y0 y1 y2 y3 y4 s0 s1 s2 s3 s4 s5 s6 s7 _ ((Kd.R_reads' HP.out).2.2) (Kd.R_reads' HP.out).2.1 QS.out).mono ?_
        rintro e w_ ⟨v4, v5, rfl, ho4, ho5, hb⟩
        refine ⟨_, rfl, ?_⟩
        have N4 := Aside0.mk (Kd.R_lower ho4 BW.out.size)
        have N5 := Aside0.mk (Kd.R_lower ho5 BW.out.size)
        replace BW := Aside0.mk (below_step BW.out hb)
        replace HP := Aside0.mk (Kd.R_below HP.out hb)
        replace B_ := Aside0.mk (blk_below B_.out hb)
        clear hb
        refine hK.out _ _ BW.out (fun hHeld => ?_)
        clear hK K
        refine norm_ (a' := ?_) ?_ ?_
        rotate_left
        · show Act.put _ (some 27) _ = _
          simp only [Act.put, List.setIfInBounds_toArray, List.set_cons_zero, List.set_cons_succ, i64_w, i32_w]
          rfl
        exact norm_ (by simp only [putAll, Act.put, List.setIfInBounds_toArray, List.set_cons_zero, List.set_cons_succ]) (hCont (.slice Ap pl.length cp, v4, v5, gb_) _ ⟨BW.out, GB.out, B_.out, N4.out, N5.out⟩)
    · skip
      refine box_step ?hg (N := 6) ?hd (cs := #[.int .i64 0, .int .i64 0, .int .i64 0, .int .i64 0, .slice none 0 0, .slice none 0 0, .bool false, .int .i64 0]) (t := 26) ?hr ?_; (case hd => rfl); (case hg => rfl); (case hr => first | (go_simp; done) | (go_simp; rfl))
      intro gb_ hg w_ hbox hb
      have GB := Aside0.mk (show w3.heap.size ≤ gb_ by rw [hg]; exact BW.out.size)
      have B_ := Aside0.mk hbox
      clear hbox hg
      replace BW := Aside0.mk (below_step BW.out hb)
      clear hb
      refine hK.out _ _ BW.out (fun hHeld => ?_)
      clear hK K
      refine norm_ (a' := ?_) ?_ ?_
      rotate_left
      · show Act.put _ (some 6) _ = _
        simp only [Act.put, List.setIfInBounds_toArray, List.set_cons_zero, List.set_cons_succ, i64_w, i32_w]
        rfl
      refine one_ (i := 1) (N := some 24) #[true, true, true, false, false, true, false] rfl rfl (by kernel_rfl) (by decide) (fun K hK => ?_)
      refine goes_ Try.func58 (by kernel_rfl) rfl #[.agg #[.int .i64 a0_0, .int .i64 a0_1, .int .i64 a0_2, .int .i64 a0_3, .slice A0_4 l0_4.length c0_4]] (by rfl) rfl rfl (by (try simp only [List.map_toArray, List.map_cons, List.map_nil]); first | done | rfl | (simp only [List.length_drop, List.length_take]; rfl)) ?_
      with_reducible refine (laws_toPipe.calls k a0_0 a0_1 a0_2 a0_3 A0_4 c0_4 l0_4 p0 p1 p2 p3 pl _ (Kd.C_below HR.out (below_step BL.out BW.out)) HC.out QP.out).mono ?_
      rintro e w_ ⟨vp, rfl, ho, hb⟩
      obtain ⟨Ap, cp, rfl⟩ := Kd.R_slice ho
      refine ⟨_, rfl, ?_⟩
      have HP := Aside0.mk (ho)
      replace BW := Aside0.mk (below_step BW.out hb)
      replace B_ := Aside0.mk (blk_below B_.out hb)
      clear hb
      refine hK.out _ _ BW.out (fun hHeld => ?_)
      clear hK K
      refine norm_ (a' := ?_) ?_ ?_
      rotate_left
      · show Act.put _ (some 24) _ = _
        simp only [Act.put, List.setIfInBounds_toArray, List.set_cons_zero, List.set_cons_succ, i64_w, i32_w]
        rfl
      refine one_ (i := 3) (N := some 26) #[true, true, true, true, false, true, false] rfl rfl (by kernel_rfl) (by decide) (fun K hK => ?_)
      refine goes_ Try.func22 (by kernel_rfl) rfl #[.agg #[.int .i64 a1_0, .int .i64 a1_1, .int .i64 a1_2, .int .i64 a1_3, .string a1_4]] (by rfl) rfl rfl (by (try simp only [List.map_toArray, List.map_cons, List.map_nil]); first | done | rfl | (simp only [List.length_drop, List.length_take]; rfl)) ?_
      with_reducible refine (laws_toPacket.calls a1_0 a1_1 a1_2 a1_3 a1_4 y0 y1 y2 y3 y4 _ QY.out).mono ?_
      rintro e w_ ⟨rfl, hb⟩
      refine ⟨_, rfl, ?_⟩
      replace BW := Aside0.mk (below_step BW.out hb)
      replace B_ := Aside0.mk (blk_below B_.out hb)
      replace HP := Aside0.mk (Kd.R_below HP.out hb)
      clear hb
      refine hK.out _ _ BW.out (fun hHeld => ?_)
      clear hK K
      refine norm_ (a' := ?_) ?_ ?_
      rotate_left
      · show Act.put _ (some 26) _ = _
        simp only [Act.put, List.setIfInBounds_toArray, List.set_cons_zero, List.set_cons_succ, i64_w, i32_w]
        rfl
      refine one_ (i := 4) (N := some 27) #[true, true, true, true, true, true, false] rfl rfl (by kernel_rfl) (by decide) (fun K hK => ?_)
      refine goes_ Try.func74 (by kernel_rfl) rfl #[.agg #[.int .i64 p0, .int .i64 p1, .int .i64 p2, .int .i64 p3, .slice Ap pl.length cp], .agg #[.int .i64 y0, .int .i64 y1, .int .i64 y2, .int .i64 y3, .string y4]] (by rfl) rfl rfl (by (try simp only [List.map_toArray, List.map_cons, List.map_nil]); first | done | rfl | (simp only [List.length_drop, List.length_take]; rfl)) ?_
      with_reducible refine (spec_PipeHear.calls k p0 p1 p2 p3 Ap cp pl y0 y1 y2 y3 y4 s0 s1 s2 s3 s4 s5 s6 s7 _ ((Kd.R_reads' HP.out).2.2) (Kd.R_reads' HP.out).2.1 QS.out).mono ?_
      rintro e w_ ⟨v4, v5, rfl, ho4, ho5, hb⟩
      refine ⟨_, rfl, ?_⟩
      have N4 := Aside0.mk (Kd.R_lower ho4 BW.out.size)
      have N5 := Aside0.mk (Kd.R_lower ho5 BW.out.size)
      replace BW := Aside0.mk (below_step BW.out hb)
      replace B_ := Aside0.mk (blk_below B_.out hb)
      replace HP := Aside0.mk (Kd.R_below HP.out hb)
      clear hb
      refine hK.out _ _ BW.out (fun hHeld => ?_)
      clear hK K
      refine norm_ (a' := ?_) ?_ ?_
      rotate_left
      · show Act.put _ (some 27) _ = _
        simp only [Act.put, List.setIfInBounds_toArray, List.set_cons_zero, List.set_cons_succ, i64_w, i32_w]
        rfl
      exact norm_ (by simp only [putAll, Act.put, List.setIfInBounds_toArray, List.set_cons_zero, List.set_cons_succ]) (hCont (.slice Ap pl.length cp, v4, v5, gb_) _ ⟨BW.out, GB.out, B_.out, N4.out, N5.out⟩)
  rintro ⟨vp_, v4, v5, k6⟩ W_ ⟨bw, gb, b_, r4, r5⟩
  obtain ⟨A6, c6, rfl⟩ := Kd.R_slice r4
  obtain ⟨D6, e6, rfl⟩ := Kd.R_slice r5
  have GB := Aside0.mk gb
  have BQ := Aside0.mk b_
  have N4 := Aside0.mk r4
  have N5 := Aside0.mk r5
  have BW := Aside0.mk bw
  clear gb b_ r4 r5 bw
  refine norm_ (a' := ?_) ?_ ?_
  rotate_left
  · simp only [putAll, Act.put, List.setIfInBounds_toArray, List.set_cons_zero, List.set_cons_succ]
    rfl
  refine one_ (i := 6) (N := none) #[true, true, true, true, true, true, true] rfl rfl (by kernel_rfl) (by decide) (fun K hK => ?_)
  obtain ⟨o0, o1, o2, o3, o4, o5, o6, o7, f0, f1, f2, f3, f4, f5, f6, f7⟩ := impl_PipeHear.ofacts BQ.out
  refine skip_ (w1 := ?_) (by rfl) rfl ?_ ?_
  rotate_left
  · go_simp
    rfl
  refine hK.out _ _ (impl_PipeHear.set8 GB.out BW.out _ _ _ _ _ _ _ _) (fun hHeld => ?_)
  clear hK K o0 f0 o1 f1 o2 f2 o3 f3 o4 f4 o5 f5 o6 f6 o7 f7
  refine done_ (by kernel_rfl) ?_
  go_upto_region 9 with (fail)
  refine laws_FnExactPipeHear.gen (fun W => (W.heap[w.heap.size]? = some (.cells #[.int .i64 a0_0, .int .i64 a0_1, .int .i64 a0_2, .int .i64 a0_3, .slice A0_4 l0_4.length c0_4] 84 (0, 0))) ∧ (W.heap[w.heap.size + 1]? = some (.cells #[.int .i64 a1_0, .int .i64 a1_1, .int .i64 a1_2, .int .i64 a1_3, .string a1_4] 32 (0, 0))) ∧ (Below w.heap.size w W) ∧ (W.heap[k6]? = some (.cells #[.int .i64 s0, .int .i64 s1, .int .i64 s2, .int .i64 s3, .slice A6 s4.length c6, .slice D6 s5.length e6, .bool s6, .int .i64 s7] 26 (0, 0))) ∧ (Kd.R Kd.string 9 W w.heap.size (fun k_ => True) (.slice A6 s4.length c6) s4) ∧ (Kd.R Kd.string 9 W w.heap.size (fun k_ => True) (.slice D6 s5.length e6) s5)) ⟨blk_below FA.out hHeld, blk_below FX.out hHeld, below_step BL.out hHeld, (impl_PipeHear.fin BQ.out _ _ _ _ _ _ _ _), Kd.R_mono (Kd.R_lower (impl_PipeHear.row8 BQ.out N4.out _ _ _ _ _ _ _ _) BL.out.size) (fun _ _ => trivial), Kd.R_mono (Kd.R_lower (impl_PipeHear.row8 BQ.out N5.out _ _ _ _ _ _ _ _) BL.out.size) (fun _ _ => trivial)⟩ ?_
  clear FA FX BL hHeld N4 N5 BQ GB BW
  rintro w5 ⟨fa_, fx_, bl_, b6_, r4_, r5_⟩
  have FA := Aside0.mk fa_
  have FX := Aside0.mk fx_
  have BL := Aside0.mk bl_
  have B6 := Aside0.mk b6_
  have R4 := Aside0.mk r4_
  have R5 := Aside0.mk r5_
  clear fa_ fx_ bl_ b6_ r4_ r5_
  replace R4 := Aside0.mk (Kd.R_mono (Kd.R_bound R4.out) (fun k hk => hk.2.2.1))
  replace R5 := Aside0.mk (Kd.R_mono (Kd.R_bound R5.out) (fun k hk => hk.2.2.1))
  have ca0 := (blk_cell FA.out 0).trans rfl
  have ca1 := (blk_cell FA.out 1).trans rfl
  have ca2 := (blk_cell FA.out 2).trans rfl
  have ca3 := (blk_cell FA.out 3).trans rfl
  have ca4 := (blk_cell FA.out 4).trans rfl
  go_wp2_with fail
  go_at_call 58
  with_reducible refine (laws_toPipe.calls k a0_0 a0_1 a0_2 a0_3 A0_4 c0_4 l0_4 p0 p1 p2 p3 pl _ (Kd.C_below HR.out BL.out) HC.out QP.out).mono ?_
  rintro e w6 ⟨vp, rfl, ho, hb⟩
  obtain ⟨Ap, cp, rfl⟩ := Kd.R_slice ho
  have HP := Aside0.mk ho
  clear ho
  have BL5 := BL
  have N56 := Aside0.mk hb.size
  clear ca0 ca1 ca2 ca3 ca4
  replace FA := Aside0.mk (blk_below FA.out hb)
  replace FX := Aside0.mk (blk_below FX.out hb)
  replace BL := Aside0.mk (below_step BL.out hb)
  replace B6 := Aside0.mk (blk_below B6.out hb)
  replace R4 := Aside0.mk (Kd.R_below R4.out hb)
  replace R5 := Aside0.mk (Kd.R_below R5.out hb)
  clear hb
  obtain ⟨k7, hk7⟩ : ∃ k7, k7 = w6.heap.size := ⟨_, rfl⟩
  have N05 := Aside0.mk BL5.out.size
  have HB := Aside0.mk (show Below w6.heap.size w6 (w6.alloc (.cells #[.int .i64 p0, .int .i64 p1, .int .i64 p2, .int .i64 p3, .slice Ap pl.length cp] 24)) from below_alloc (Below.refl _ _) _)
  have B7 := Aside0.mk (show (w6.alloc (.cells #[.int .i64 p0, .int .i64 p1, .int .i64 p2, .int .i64 p3, .slice Ap pl.length cp] 24)).heap[k7]? = some (.cells #[.int .i64 p0, .int .i64 p1, .int .i64 p2, .int .i64 p3, .slice Ap pl.length cp] 24 (0, 0)) from hk7 ▸ blk_new w6 _)
  go_upto_region 10 with (fail)
  rw [← hk7]
  refine laws_FnExactPipeHear.gen (fun W => (W.heap[w.heap.size]? = some (.cells #[.int .i64 a0_0, .int .i64 a0_1, .int .i64 a0_2, .int .i64 a0_3, .slice A0_4 l0_4.length c0_4] 84 (0, 0))) ∧ (W.heap[w.heap.size + 1]? = some (.cells #[.int .i64 a1_0, .int .i64 a1_1, .int .i64 a1_2, .int .i64 a1_3, .string a1_4] 32 (0, 0))) ∧ (Below w.heap.size w W) ∧ (W.heap[k6]? = some (.cells #[.int .i64 s0, .int .i64 s1, .int .i64 s2, .int .i64 s3, .slice A6 s4.length c6, .slice D6 s5.length e6, .bool s6, .int .i64 s7] 26 (0, 0))) ∧ (Kd.R Kd.string 9 W w.heap.size (fun k_ => k_ < w5.heap.size) (.slice A6 s4.length c6) s4) ∧ (Kd.R Kd.string 9 W w.heap.size (fun k_ => k_ < w5.heap.size) (.slice D6 s5.length e6) s5) ∧ (Kd.R Kd.string 9 W w5.heap.size (fun _ => True) (.slice Ap pl.length cp) pl) ∧ (W.heap[k7]? = some (.cells #[.int .i64 p0, .int .i64 p1, .int .i64 p2, .int .i64 p3, .slice Ap pl.length cp] 24 (0, 0))) ∧ (w5.heap.size ≤ W.heap.size)) ⟨blk_below FA.out HB.out, blk_below FX.out HB.out, below_step BL.out HB.out, blk_below B6.out HB.out, Kd.R_below R4.out HB.out, Kd.R_below R5.out HB.out, Kd.R_below HP.out HB.out, B7.out, Nat.le_trans N56.out HB.out.size⟩ ?_
  clear FA FX BL B6 R4 R5 HP B7 HB N56 hk7
  rintro w8 ⟨fa_, fx_, bl_, b6_, r4_, r5_, hp_, b7_, n58_⟩
  have FA := Aside0.mk fa_
  have FX := Aside0.mk fx_
  have BL := Aside0.mk bl_
  have B6 := Aside0.mk b6_
  have R4 := Aside0.mk r4_
  have R5 := Aside0.mk r5_
  have HP := Aside0.mk hp_
  have B7 := Aside0.mk b7_
  have N58 := Aside0.mk n58_
  clear fa_ fx_ bl_ b6_ r4_ r5_ hp_ b7_ n58_
  have HLT := Aside0.mk (Kd.R_lt HP.out)
  have N08 := Aside0.mk BL.out.size
  refine start_ (n := 6) (S := fun w' => Below w8.heap.size w8 w') (ds := []) #[false, false, false, false, false, false] (by kernel_rfl) rfl rfl (below_drew1 (Below.refl _ _)) (fun hHeld => ?_)
  have BW := Aside0.mk (show Below w8.heap.size w8 w8.drew from below_drew1 (Below.refl _ _))
  generalize w8.drew = W_ at BW hHeld ⊢
  refine take_ (i := 0) (N := some 30) (v := ?_) (a' := ?_) #[true, false, false, false, false, false] rfl rfl (by kernel_rfl) (fun _ _ _ h => h) (Or.inl ⟨by rfl, ?_⟩) hHeld ?_ ?_
  rotate_left
  · intro w' s0
    have cb0 := (blk_cell (blk_below B7.out s0) 0).trans rfl
    have cb1 := (blk_cell (blk_below B7.out s0) 1).trans rfl
    have cb2 := (blk_cell (blk_below B7.out s0) 2).trans rfl
    have cb3 := (blk_cell (blk_below B7.out s0) 3).trans rfl
    have cb4 := (blk_cell (blk_below B7.out s0) 4).trans rfl
    go_simp
    with_reducible rfl
  rotate_left
  · simp only [Act.put, List.setIfInBounds_toArray, List.set_cons_zero, List.set_cons_succ, i64_w, i32_w]
    rfl
  refine take_ (i := 1) (N := some 31) (v := ?_) (a' := ?_) #[true, true, false, false, false, false] rfl rfl (by kernel_rfl) (fun _ _ _ h => h) (Or.inl ⟨by rfl, ?_⟩) hHeld ?_ ?_
  rotate_left
  · intro w' s0
    have cb0 := (blk_cell (blk_below FX.out s0) 0).trans rfl
    have cb1 := (blk_cell (blk_below FX.out s0) 1).trans rfl
    have cb2 := (blk_cell (blk_below FX.out s0) 2).trans rfl
    have cb3 := (blk_cell (blk_below FX.out s0) 3).trans rfl
    have cb4 := (blk_cell (blk_below FX.out s0) 4).trans rfl
    go_simp
    with_reducible rfl
  rotate_left
  · simp only [Act.put, List.setIfInBounds_toArray, List.set_cons_zero, List.set_cons_succ, i64_w, i32_w]
    rfl
  refine join_ (σ := Value × Value × Nat) 1 #[true, true, true, true, true, false] (fun s_ => [(32, .agg #[.int .i64 y0, .int .i64 y1, .int .i64 y2, .int .i64 y3, .string y4]), (33, .agg #[.int .i64 g0, .int .i64 g1, .int .i64 g2, .int .i64 g3, s_.1, s_.2.1, .bool g6, .int .i64 g7]), (8, .pointer (some ⟨s_.2.2, 0, none⟩))]) (fun s_ w' => Below w8.heap.size w8 w' ∧ (w8.heap.size ≤ s_.2.2) ∧ (w'.heap[s_.2.2]? = some (.cells #[.int .i64 0, .int .i64 0, .int .i64 0, .int .i64 0, .slice none 0 0, .slice none 0 0, .bool false, .int .i64 0] 26 (0, 0))) ∧ (Kd.R Kd.string 9 w' w8.heap.size (fun k_ => some k_ ≠ (s_.2.1 : Value).ownBlock) s_.1 g4) ∧ (Kd.R Kd.string 9 w' w8.heap.size (fun k_ => some k_ ≠ (s_.1 : Value).ownBlock) s_.2.1 g5)) ?_ (fun hCont => ?_)
  rotate_left
  · skip
    refine two_ (i := 2) (j := 4) (Ni := some 32) (Nj := some 8) #[true, true, true, false, false, false] #[true, true, false, false, true, false] rfl rfl rfl rfl (by kernel_rfl) (by decide) (by decide) (fun K hK => ?_) (fun K hK => ?_)
    · skip
      refine goes_ Try.func22 (by kernel_rfl) rfl #[.agg #[.int .i64 a1_0, .int .i64 a1_1, .int .i64 a1_2, .int .i64 a1_3, .string a1_4]] (by rfl) rfl rfl (by (try simp only [List.map_toArray, List.map_cons, List.map_nil]); first | done | rfl | (simp only [List.length_drop, List.length_take]; rfl)) ?_
      with_reducible refine (laws_toPacket.calls a1_0 a1_1 a1_2 a1_3 a1_4 y0 y1 y2 y3 y4 _ QY.out).mono ?_
      rintro e w_ ⟨rfl, hb⟩
      refine ⟨_, rfl, ?_⟩
      replace BW := Aside0.mk (below_step BW.out hb)
      clear hb
      refine hK.out _ _ BW.out (fun hHeld => ?_)
      clear hK K
      refine norm_ (a' := ?_) ?_ ?_
      rotate_left
      · show Act.put _ (some 32) _ = _
        simp only [Act.put, List.setIfInBounds_toArray, List.set_cons_zero, List.set_cons_succ, i64_w, i32_w]
        rfl
      refine two_ (i := 3) (j := 4) (Ni := some 33) (Nj := some 8) #[true, true, true, true, false, false] #[true, true, true, false, true, false] rfl rfl rfl rfl (by kernel_rfl) (by decide) (by decide) (fun K hK => ?_) (fun K hK => ?_)
      · skip
        refine goes_ Try.func75 (by kernel_rfl) rfl #[.agg #[.int .i64 p0, .int .i64 p1, .int .i64 p2, .int .i64 p3, .slice Ap pl.length cp], .agg #[.int .i64 y0, .int .i64 y1, .int .i64 y2, .int .i64 y3, .string y4]] (by rfl) rfl rfl (by (try simp only [List.map_toArray, List.map_cons, List.map_nil]); first | done | rfl | (simp only [List.length_drop, List.length_take]; rfl)) ?_
        with_reducible refine (impl_PipeHear.calls p0 p1 p2 p3 Ap cp pl y0 y1 y2 y3 y4 g0 g1 g2 g3 g4 g5 g6 g7 _ (Kd.C_below (Kd.R_reads' HP.out).2.2 BW.out) (Kd.R_reads' HP.out).2.1 QG.out).mono ?_
        rintro e w_ ⟨v4, v5, rfl, ho4, ho5, hb⟩
        refine ⟨_, rfl, ?_⟩
        have N4 := Aside0.mk (Kd.R_lower ho4 BW.out.size)
        have N5 := Aside0.mk (Kd.R_lower ho5 BW.out.size)
        replace BW := Aside0.mk (below_step BW.out hb)
        clear hb
        refine hK.out _ _ BW.out (fun hHeld => ?_)
        clear hK K
        refine norm_ (a' := ?_) ?_ ?_
        rotate_left
        · show Act.put _ (some 33) _ = _
          simp only [Act.put, List.setIfInBounds_toArray, List.set_cons_zero, List.set_cons_succ, i64_w, i32_w]
          rfl
        refine one_ (i := 4) (N := some 8) #[true, true, true, true, true, false] rfl rfl (by kernel_rfl) (by decide) (fun K hK => ?_)
        refine box_step ?hg (N := 8) ?hd (cs := #[.int .i64 0, .int .i64 0, .int .i64 0, .int .i64 0, .slice none 0 0, .slice none 0 0, .bool false, .int .i64 0]) (t := 26) ?hr ?_; (case hd => rfl); (case hg => rfl); (case hr => first | (go_simp; done) | (go_simp; rfl))
        intro gb_ hg w_ hbox hb
        have GB := Aside0.mk (show w8.heap.size ≤ gb_ by rw [hg]; exact BW.out.size)
        have B_ := Aside0.mk hbox
        clear hbox hg
        replace BW := Aside0.mk (below_step BW.out hb)
        replace N4 := Aside0.mk (Kd.R_below N4.out hb)
        replace N5 := Aside0.mk (Kd.R_below N5.out hb)
        clear hb
        refine hK.out _ _ BW.out (fun hHeld => ?_)
        clear hK K
        refine norm_ (a' := ?_) ?_ ?_
        rotate_left
        · show Act.put _ (some 8) _ = _
          simp only [Act.put, List.setIfInBounds_toArray, List.set_cons_zero, List.set_cons_succ, i64_w, i32_w]
          rfl
        exact norm_ (by simp only [putAll, Act.put, List.setIfInBounds_toArray, List.set_cons_zero, List.set_cons_succ]) (hCont (v4, v5, gb_) _ ⟨BW.out, GB.out, B_.out, N4.out, N5.out⟩)
      · skip
        refine box_step ?hg (N := 8) ?hd (cs := #[.int .i64 0, .int .i64 0, .int .i64 0, .int .i64 0, .slice none 0 0, .slice none 0 0, .bool false, .int .i64 0]) (t := 26) ?hr ?_; (case hd => rfl); (case hg => rfl); (case hr => first | (go_simp; done) | (go_simp; rfl))
        intro gb_ hg w_ hbox hb
        have GB := Aside0.mk (show w8.heap.size ≤ gb_ by rw [hg]; exact BW.out.size)
        have B_ := Aside0.mk hbox
        clear hbox hg
        replace BW := Aside0.mk (below_step BW.out hb)
        clear hb
        refine hK.out _ _ BW.out (fun hHeld => ?_)
        clear hK K
        refine norm_ (a' := ?_) ?_ ?_
        rotate_left
        · show Act.put _ (some 8) _ = _
          simp only [Act.put, List.setIfInBounds_toArray, List.set_cons_zero, List.set_cons_succ, i64_w, i32_w]
          rfl
        refine one_ (i := 3) (N := some 33) #[true, true, true, true, true, false] rfl rfl (by kernel_rfl) (by decide) (fun K hK => ?_)
        refine goes_ Try.func75 (by kernel_rfl) rfl #[.agg #[.int .i64 p0, .int .i64 p1, .int .i64 p2, .int .i64 p3, .slice Ap pl.length cp], .agg #[.int .i64 y0, .int .i64 y1, .int .i64 y2, .int .i64 y3, .string y4]] (by rfl) rfl rfl (by (try simp only [List.map_toArray, List.map_cons, List.map_nil]); first | done | rfl | (simp only [List.length_drop, List.length_take]; rfl)) ?_
        with_reducible refine (impl_PipeHear.calls p0 p1 p2 p3 Ap cp pl y0 y1 y2 y3 y4 g0 g1 g2 g3 g4 g5 g6 g7 _ (Kd.C_below (Kd.R_reads' HP.out).2.2 BW.out) (Kd.R_reads' HP.out).2.1 QG.out).mono ?_
        rintro e w_ ⟨v4, v5, rfl, ho4, ho5, hb⟩
        refine ⟨_, rfl, ?_⟩
        have N4 := Aside0.mk (Kd.R_lower ho4 BW.out.size)
        have N5 := Aside0.mk (Kd.R_lower ho5 BW.out.size)
        replace BW := Aside0.mk (below_step BW.out hb)
        replace B_ := Aside0.mk (blk_below B_.out hb)
        clear hb
        refine hK.out _ _ BW.out (fun hHeld => ?_)
        clear hK K
        refine norm_ (a' := ?_) ?_ ?_
        rotate_left
        · show Act.put _ (some 33) _ = _
          simp only [Act.put, List.setIfInBounds_toArray, List.set_cons_zero, List.set_cons_succ, i64_w, i32_w]
          rfl
        exact norm_ (by simp only [putAll, Act.put, List.setIfInBounds_toArray, List.set_cons_zero, List.set_cons_succ]) (hCont (v4, v5, gb_) _ ⟨BW.out, GB.out, B_.out, N4.out, N5.out⟩)
    · skip
      refine box_step ?hg (N := 8) ?hd (cs := #[.int .i64 0, .int .i64 0, .int .i64 0, .int .i64 0, .slice none 0 0, .slice none 0 0, .bool false, .int .i64 0]) (t := 26) ?hr ?_; (case hd => rfl); (case hg => rfl); (case hr => first | (go_simp; done) | (go_simp; rfl))
      intro gb_ hg w_ hbox hb
      have GB := Aside0.mk (show w8.heap.size ≤ gb_ by rw [hg]; exact BW.out.size)
      have B_ := Aside0.mk hbox
      clear hbox hg
      replace BW := Aside0.mk (below_step BW.out hb)
      clear hb
      refine hK.out _ _ BW.out (fun hHeld => ?_)
      clear hK K
      refine norm_ (a' := ?_) ?_ ?_
      rotate_left
      · show Act.put _ (some 8) _ = _
        simp only [Act.put, List.setIfInBounds_toArray, List.set_cons_zero, List.set_cons_succ, i64_w, i32_w]
        rfl
      refine one_ (i := 2) (N := some 32) #[true, true, true, false, true, false] rfl rfl (by kernel_rfl) (by decide) (fun K hK => ?_)
      refine goes_ Try.func22 (by kernel_rfl) rfl #[.agg #[.int .i64 a1_0, .int .i64 a1_1, .int .i64 a1_2, .int .i64 a1_3, .string a1_4]] (by rfl) rfl rfl (by (try simp only [List.map_toArray, List.map_cons, List.map_nil]); first | done | rfl | (simp only [List.length_drop, List.length_take]; rfl)) ?_
      with_reducible refine (laws_toPacket.calls a1_0 a1_1 a1_2 a1_3 a1_4 y0 y1 y2 y3 y4 _ QY.out).mono ?_
      rintro e w_ ⟨rfl, hb⟩
      refine ⟨_, rfl, ?_⟩
      replace BW := Aside0.mk (below_step BW.out hb)
      replace B_ := Aside0.mk (blk_below B_.out hb)
      clear hb
      refine hK.out _ _ BW.out (fun hHeld => ?_)
      clear hK K
      refine norm_ (a' := ?_) ?_ ?_
      rotate_left
      · show Act.put _ (some 32) _ = _
        simp only [Act.put, List.setIfInBounds_toArray, List.set_cons_zero, List.set_cons_succ, i64_w, i32_w]
        rfl
      refine one_ (i := 3) (N := some 33) #[true, true, true, true, true, false] rfl rfl (by kernel_rfl) (by decide) (fun K hK => ?_)
      refine goes_ Try.func75 (by kernel_rfl) rfl #[.agg #[.int .i64 p0, .int .i64 p1, .int .i64 p2, .int .i64 p3, .slice Ap pl.length cp], .agg #[.int .i64 y0, .int .i64 y1, .int .i64 y2, .int .i64 y3, .string y4]] (by rfl) rfl rfl (by (try simp only [List.map_toArray, List.map_cons, List.map_nil]); first | done | rfl | (simp only [List.length_drop, List.length_take]; rfl)) ?_
      with_reducible refine (impl_PipeHear.calls p0 p1 p2 p3 Ap cp pl y0 y1 y2 y3 y4 g0 g1 g2 g3 g4 g5 g6 g7 _ (Kd.C_below (Kd.R_reads' HP.out).2.2 BW.out) (Kd.R_reads' HP.out).2.1 QG.out).mono ?_
      rintro e w_ ⟨v4, v5, rfl, ho4, ho5, hb⟩
      refine ⟨_, rfl, ?_⟩
      have N4 := Aside0.mk (Kd.R_lower ho4 BW.out.size)
      have N5 := Aside0.mk (Kd.R_lower ho5 BW.out.size)
      replace BW := Aside0.mk (below_step BW.out hb)
      replace B_ := Aside0.mk (blk_below B_.out hb)
      clear hb
      refine hK.out _ _ BW.out (fun hHeld => ?_)
      clear hK K
      refine norm_ (a' := ?_) ?_ ?_
      rotate_left
      · show Act.put _ (some 33) _ = _
        simp only [Act.put, List.setIfInBounds_toArray, List.set_cons_zero, List.set_cons_succ, i64_w, i32_w]
        rfl
      exact norm_ (by simp only [putAll, Act.put, List.setIfInBounds_toArray, List.set_cons_zero, List.set_cons_succ]) (hCont (v4, v5, gb_) _ ⟨BW.out, GB.out, B_.out, N4.out, N5.out⟩)
  rintro ⟨v4, v5, k8⟩ W_ ⟨bw, gb, b_, r4, r5⟩
  obtain ⟨A8, c8, rfl⟩ := Kd.R_slice r4
  obtain ⟨D8, e8, rfl⟩ := Kd.R_slice r5
  have GB := Aside0.mk gb
  have BQ := Aside0.mk b_
  have N4 := Aside0.mk r4
  have N5 := Aside0.mk r5
  have BW := Aside0.mk bw
  clear gb b_ r4 r5 bw
  refine norm_ (a' := ?_) ?_ ?_
  rotate_left
  · simp only [putAll, Act.put, List.setIfInBounds_toArray, List.set_cons_zero, List.set_cons_succ]
    rfl
  refine one_ (i := 5) (N := none) #[true, true, true, true, true, true] rfl rfl (by kernel_rfl) (by decide) (fun K hK => ?_)
  obtain ⟨o0, o1, o2, o3, o4, o5, o6, o7, f0, f1, f2, f3, f4, f5, f6, f7⟩ := impl_PipeHear.ofacts BQ.out
  refine skip_ (w1 := ?_) (by rfl) rfl ?_ ?_
  rotate_left
  · go_simp
    rfl
  refine hK.out _ _ (impl_PipeHear.set8 GB.out BW.out _ _ _ _ _ _ _ _) (fun hHeld => ?_)
  clear hK K o0 f0 o1 f1 o2 f2 o3 f3 o4 f4 o5 f5 o6 f6 o7 f7
  refine done_ (by kernel_rfl) ?_
  go_upto_region 11 with (fail)
  refine laws_FnExactPipeHear.gen (fun W => (W.heap[w.heap.size]? = some (.cells #[.int .i64 a0_0, .int .i64 a0_1, .int .i64 a0_2, .int .i64 a0_3, .slice A0_4 l0_4.length c0_4] 84 (0, 0))) ∧ (W.heap[w.heap.size + 1]? = some (.cells #[.int .i64 a1_0, .int .i64 a1_1, .int .i64 a1_2, .int .i64 a1_3, .string a1_4] 32 (0, 0))) ∧ (Below w.heap.size w W) ∧ (W.heap[k6]? = some (.cells #[.int .i64 s0, .int .i64 s1, .int .i64 s2, .int .i64 s3, .slice A6 s4.length c6, .slice D6 s5.length e6, .bool s6, .int .i64 s7] 26 (0, 0))) ∧ (Kd.R Kd.string 9 W w.heap.size (fun k_ => k_ < w5.heap.size) (.slice A6 s4.length c6) s4) ∧ (Kd.R Kd.string 9 W w.heap.size (fun k_ => k_ < w5.heap.size) (.slice D6 s5.length e6) s5) ∧ (Kd.R Kd.string 9 W w5.heap.size (fun _ => True) (.slice Ap pl.length cp) pl) ∧ (W.heap[k7]? = some (.cells #[.int .i64 p0, .int .i64 p1, .int .i64 p2, .int .i64 p3, .slice Ap pl.length cp] 24 (0, 0))) ∧ (W.heap[k8]? = some (.cells #[.int .i64 g0, .int .i64 g1, .int .i64 g2, .int .i64 g3, .slice A8 g4.length c8, .slice D8 g5.length e8, .bool g6, .int .i64 g7] 26 (0, 0))) ∧ (Kd.R Kd.string 9 W w8.heap.size (fun k_ => some k_ ≠ (.slice D8 g5.length e8 : Value).ownBlock) (.slice A8 g4.length c8) g4) ∧ (Kd.R Kd.string 9 W w8.heap.size (fun k_ => some k_ ≠ (.slice A8 g4.length c8 : Value).ownBlock) (.slice D8 g5.length e8) g5)) ⟨blk_below FA.out hHeld, blk_below FX.out hHeld, below_step BL.out hHeld, blk_below B6.out hHeld, Kd.R_below R4.out hHeld, Kd.R_below R5.out hHeld, Kd.R_below HP.out hHeld, blk_below B7.out hHeld, (impl_PipeHear.fin BQ.out _ _ _ _ _ _ _ _), impl_PipeHear.row8 BQ.out N4.out _ _ _ _ _ _ _ _, impl_PipeHear.row8 BQ.out N5.out _ _ _ _ _ _ _ _⟩ ?_
  clear FA FX BL B6 R4 R5 HP B7 hHeld N4 N5 BQ GB BW
  rintro w11 ⟨fa_, fx_, bl_, b6_, r4_, r5_, hp_, b7_, b8_, r6_, r7_⟩
  have FA := Aside0.mk fa_
  have FX := Aside0.mk fx_
  have BL := Aside0.mk bl_
  have B6 := Aside0.mk b6_
  have R4 := Aside0.mk r4_
  have R5 := Aside0.mk r5_
  have HP := Aside0.mk hp_
  have B7 := Aside0.mk b7_
  have B8 := Aside0.mk b8_
  have R6 := Aside0.mk r6_
  have R7 := Aside0.mk r7_
  clear fa_ fx_ bl_ b6_ r4_ r5_ hp_ b7_ b8_ r6_ r7_
  replace R6 := Aside0.mk (Kd.R_mono (ok' := fun k_ => w8.heap.size ≤ k_ ∧ some k_ ≠ (.slice D8 g5.length e8 : Value).ownBlock) (Kd.R_bound R6.out) (fun k hk => ⟨hk.2.1, hk.1⟩))
  replace R7 := Aside0.mk (Kd.R_mono (ok' := fun k_ => w8.heap.size ≤ k_ ∧ some k_ ≠ (.slice A8 g4.length c8 : Value).ownBlock) (Kd.R_bound R7.out) (fun k hk => ⟨hk.2.1, hk.1⟩))
  have ce0 := (blk_cell B8.out 0).trans rfl
  have ce1 := (blk_cell B8.out 1).trans rfl
  have ce2 := (blk_cell B8.out 2).trans rfl
  have ce3 := (blk_cell B8.out 3).trans rfl
  have ce4 := (blk_cell B8.out 4).trans rfl
  have ce5 := (blk_cell B8.out 5).trans rfl
  have ce6 := (blk_cell B8.out 6).trans rfl
  have ce7 := (blk_cell B8.out 7).trans rfl
  have cf0 := (blk_cell B6.out 0).trans rfl
  have cf1 := (blk_cell B6.out 1).trans rfl
  have cf2 := (blk_cell B6.out 2).trans rfl
  have cf3 := (blk_cell B6.out 3).trans rfl
  have cf4 := (blk_cell B6.out 4).trans rfl
  have cf5 := (blk_cell B6.out 5).trans rfl
  have cf6 := (blk_cell B6.out 6).trans rfl
  have cf7 := (blk_cell B6.out 7).trans rfl
  go_wp2_with fail
  go_at_call 17
  with_reducible refine (laws_eqPipeOut.calls k g0 g1 g2 g3 A8 c8 g4 D8 e8 g5 g6 g7 s0 s1 s2 s3 A6 c6 s4 D6 e6 s5 s6 s7 true _ (Kd.R_reads' R6.out).2.2 (Kd.R_reads' R6.out).2.1 (Kd.R_reads' R7.out).2.2 (Kd.R_reads' R7.out).2.1 (Kd.R_reads' R4.out).2.2 (Kd.R_reads' R4.out).2.1 (Kd.R_reads' R5.out).2.2 (Kd.R_reads' R5.out).2.1 QE.out).mono ?_
  rintro e w12 ⟨rfl, hb⟩
  clear ce0 ce1 ce2 ce3 ce4 ce5 ce6 ce7 cf0 cf1 cf2 cf3 cf4 cf5 cf6 cf7
  replace FA := Aside0.mk (blk_below FA.out hb)
  replace FX := Aside0.mk (blk_below FX.out hb)
  replace BL := Aside0.mk (below_step BL.out hb)
  replace B6 := Aside0.mk (blk_below B6.out hb)
  replace R4 := Aside0.mk (Kd.R_below R4.out hb)
  replace R5 := Aside0.mk (Kd.R_below R5.out hb)
  replace HP := Aside0.mk (Kd.R_below HP.out hb)
  replace B7 := Aside0.mk (blk_below B7.out hb)
  replace B8 := Aside0.mk (blk_below B8.out hb)
  replace R6 := Aside0.mk (Kd.R_below R6.out hb)
  replace R7 := Aside0.mk (Kd.R_below R7.out hb)
  clear hb
  go_upto_region 13 with (fail)
  refine start_ (n := 5) (S := fun w' => Below w12.heap.size w12 w') (ds := []) #[false, false, false, false, false] (by kernel_rfl) rfl rfl (below_drew1 (Below.refl _ _)) (fun hHeld => ?_)
  have BW := Aside0.mk (show Below w12.heap.size w12 w12.drew from below_drew1 (Below.refl _ _))
  generalize w12.drew = W_ at BW hHeld ⊢
  refine take_ (i := 0) (N := some 38) (v := ?_) (a' := ?_) #[true, false, false, false, false] rfl rfl (by kernel_rfl) (fun _ _ _ h => h) (Or.inl ⟨by rfl, ?_⟩) hHeld ?_ ?_
  rotate_left
  · intro w' s0
    have cb0 := (blk_cell (blk_below B7.out s0) 0).trans rfl
    have cb1 := (blk_cell (blk_below B7.out s0) 1).trans rfl
    have cb2 := (blk_cell (blk_below B7.out s0) 2).trans rfl
    have cb3 := (blk_cell (blk_below B7.out s0) 3).trans rfl
    have cb4 := (blk_cell (blk_below B7.out s0) 4).trans rfl
    go_simp
    with_reducible rfl
  rotate_left
  · simp only [Act.put, List.setIfInBounds_toArray, List.set_cons_zero, List.set_cons_succ, i64_w, i32_w]
    rfl
  refine take_ (i := 1) (N := some 39) (v := ?_) (a' := ?_) #[true, true, false, false, false] rfl rfl (by kernel_rfl) (fun _ _ _ h => h) (Or.inl ⟨by rfl, ?_⟩) hHeld ?_ ?_
  rotate_left
  · intro w' s0
    have cb0 := (blk_cell (blk_below FA.out s0) 0).trans rfl
    have cb1 := (blk_cell (blk_below FA.out s0) 1).trans rfl
    have cb2 := (blk_cell (blk_below FA.out s0) 2).trans rfl
    have cb3 := (blk_cell (blk_below FA.out s0) 3).trans rfl
    have cb4 := (blk_cell (blk_below FA.out s0) 4).trans rfl
    go_simp
    with_reducible rfl
  rotate_left
  · simp only [Act.put, List.setIfInBounds_toArray, List.set_cons_zero, List.set_cons_succ, i64_w, i32_w]
    rfl
  refine join_ (σ := Value) 1 #[true, true, true, true, false] (fun s_ => [(40, .agg #[.int .i64 p0, .int .i64 p1, .int .i64 p2, .int .i64 p3, s_]), (41, .bool true)]) (fun s_ w' => Below w12.heap.size w12 w' ∧ (True)) ?_ (fun hCont => ?_)
  rotate_left
  · skip
    refine one_ (i := 2) (N := some 40) #[true, true, true, false, false] rfl rfl (by kernel_rfl) (by decide) (fun K hK => ?_)
    refine goes_ Try.func58 (by kernel_rfl) rfl #[.agg #[.int .i64 a0_0, .int .i64 a0_1, .int .i64 a0_2, .int .i64 a0_3, .slice A0_4 l0_4.length c0_4]] (by rfl) rfl rfl (by (try simp only [List.map_toArray, List.map_cons, List.map_nil]); first | done | rfl | (simp only [List.length_drop, List.length_take]; rfl)) ?_
    with_reducible refine (laws_toPipe.calls k a0_0 a0_1 a0_2 a0_3 A0_4 c0_4 l0_4 p0 p1 p2 p3 pl _ (Kd.C_below HR.out (below_step BL.out BW.out)) HC.out QP.out).mono ?_
    rintro e w_ ⟨vp, rfl, ho, hb⟩
    obtain ⟨Aq, cq, rfl⟩ := Kd.R_slice ho
    refine ⟨_, rfl, ?_⟩
    have HQ := Aside0.mk (ho)
    replace BW := Aside0.mk (below_step BW.out hb)
    clear hb
    refine hK.out _ _ BW.out (fun hHeld => ?_)
    clear hK K
    refine norm_ (a' := ?_) ?_ ?_
    rotate_left
    · show Act.put _ (some 40) _ = _
      simp only [Act.put, List.setIfInBounds_toArray, List.set_cons_zero, List.set_cons_succ, i64_w, i32_w]
      rfl
    refine one_ (i := 3) (N := some 41) #[true, true, true, true, false] rfl rfl (by kernel_rfl) (by decide) (fun K hK => ?_)
    refine goes_ Try.func60 (by kernel_rfl) rfl #[.agg #[.int .i64 p0, .int .i64 p1, .int .i64 p2, .int .i64 p3, .slice Ap pl.length cp], .agg #[.int .i64 p0, .int .i64 p1, .int .i64 p2, .int .i64 p3, .slice Aq pl.length cq]] (by rfl) rfl rfl (by (try simp only [List.map_toArray, List.map_cons, List.map_nil]); first | done | rfl | (simp only [List.length_drop, List.length_take]; rfl)) ?_
    with_reducible refine (laws_eqPipe.calls k p0 p1 p2 p3 Ap cp pl p0 p1 p2 p3 Aq cq pl true _ (Kd.C_below (Kd.R_reads' HP.out).2.2 BW.out) (Kd.R_reads' HP.out).2.1 (Kd.R_reads' HQ.out).2.2 (Kd.R_reads' HQ.out).2.1 QE2.out).mono ?_
    rintro e w_ ⟨rfl, hb⟩
    refine ⟨_, rfl, ?_⟩
    replace BW := Aside0.mk (below_step BW.out hb)
    replace HQ := Aside0.mk (Kd.R_below HQ.out hb)
    clear hb
    refine hK.out _ _ BW.out (fun hHeld => ?_)
    clear hK K
    refine norm_ (a' := ?_) ?_ ?_
    rotate_left
    · show Act.put _ (some 41) _ = _
      simp only [Act.put, List.setIfInBounds_toArray, List.set_cons_zero, List.set_cons_succ, i64_w, i32_w]
      rfl
    exact norm_ (by simp only [putAll, Act.put, List.setIfInBounds_toArray, List.set_cons_zero, List.set_cons_succ]) (hCont (.slice Aq pl.length cq) _ ⟨BW.out, trivial⟩)
  rintro vq_ w13 ⟨hb, _⟩
  refine norm_ (a' := ?_) ?_ ?_
  rotate_left
  · simp only [putAll, Act.put, List.setIfInBounds_toArray, List.set_cons_zero, List.set_cons_succ]
    rfl
  refine pure_ (i := 4) (N := some 42) (v := ?_) (a' := ?_) #[true, true, true, true, true] rfl rfl (by kernel_rfl) (fun _ _ _ h => h) (Or.inl ⟨by rfl, ?_⟩) ?_ ?_
  rotate_left
  · intro w'
    go_simp
    with_reducible rfl
  rotate_left
  · simp only [Act.put, List.setIfInBounds_toArray, List.set_cons_zero, List.set_cons_succ]
    rfl
  refine done_ (by kernel_rfl) ?_
  replace FA := Aside0.mk (blk_below FA.out hb)
  replace FX := Aside0.mk (blk_below FX.out hb)
  replace BL := Aside0.mk (below_step BL.out hb)
  replace B6 := Aside0.mk (blk_below B6.out hb)
  replace R4 := Aside0.mk (Kd.R_below R4.out hb)
  replace R5 := Aside0.mk (Kd.R_below R5.out hb)
  replace HP := Aside0.mk (Kd.R_below HP.out hb)
  replace B7 := Aside0.mk (blk_below B7.out hb)
  replace B8 := Aside0.mk (blk_below B8.out hb)
  replace R6 := Aside0.mk (Kd.R_below R6.out hb)
  replace R7 := Aside0.mk (Kd.R_below R7.out hb)
  clear hb
  have cb0 := (blk_cell B7.out 0).trans rfl
  have cb1 := (blk_cell B7.out 1).trans rfl
  have cb2 := (blk_cell B7.out 2).trans rfl
  have cb3 := (blk_cell B7.out 3).trans rfl
  have cb4 := (blk_cell B7.out 4).trans rfl
  have dm : decide (m1 < 0) = false := decide_eq_false (by omega)
  go_wp2_with fail
  go_at_call 61
  with_reducible refine (laws_markPipe.calls k p0 p1 p2 p3 (fun k_ => some k_ = (.slice Ap pl.length cp : Value).ownBlock) (.slice Ap pl.length cp) pl 1 m1 ml w _ BL.out (Kd.R_lower (Kd.R_tight rfl HP.out) N05.out) QM1.out).mono ?_
  rintro e w14 ⟨rfl, _, hbl, hk⟩
  replace BL := Aside0.mk hbl
  clear cb0 cb1 cb2 cb3 cb4
  replace FA := Aside0.mk (laws_FnExactPipeHear.blk_kept FA.out hk (Kd.R_ne HP.out FA.out (by decide)))
  replace FX := Aside0.mk (laws_FnExactPipeHear.blk_kept FX.out hk (Kd.R_ne HP.out FX.out (by decide)))
  replace B6 := Aside0.mk (laws_FnExactPipeHear.blk_kept B6.out hk (Kd.R_ne HP.out B6.out (by decide)))
  replace B8 := Aside0.mk (laws_FnExactPipeHear.blk_kept B8.out hk (Kd.R_ne HP.out B8.out (by decide)))
  replace R4 := Aside0.mk (Kd.R_kept R4.out hk (fun k h e => Nat.lt_irrefl _ (Nat.lt_of_lt_of_le h (Kd.R_base HP.out k e.symm))))
  replace R5 := Aside0.mk (Kd.R_kept R5.out hk (fun k h e => Nat.lt_irrefl _ (Nat.lt_of_lt_of_le h (Kd.R_base HP.out k e.symm))))
  replace R6 := Aside0.mk (Kd.R_kept R6.out hk (fun k h e => Nat.lt_irrefl _ (Nat.lt_of_lt_of_le (HLT.out k e.symm) h.1)))
  replace R7 := Aside0.mk (Kd.R_kept R7.out hk (fun k h e => Nat.lt_irrefl _ (Nat.lt_of_lt_of_le (HLT.out k e.symm) h.1)))
  clear hbl hk HP B7 HLT
  have ce0 := (blk_cell B8.out 0).trans rfl
  have ce1 := (blk_cell B8.out 1).trans rfl
  have ce2 := (blk_cell B8.out 2).trans rfl
  have ce3 := (blk_cell B8.out 3).trans rfl
  have ce4 := (blk_cell B8.out 4).trans rfl
  have ce5 := (blk_cell B8.out 5).trans rfl
  have ce6 := (blk_cell B8.out 6).trans rfl
  have ce7 := (blk_cell B8.out 7).trans rfl
  have cf0 := (blk_cell B6.out 0).trans rfl
  have cf1 := (blk_cell B6.out 1).trans rfl
  have cf2 := (blk_cell B6.out 2).trans rfl
  have cf3 := (blk_cell B6.out 3).trans rfl
  have cf4 := (blk_cell B6.out 4).trans rfl
  have cf5 := (blk_cell B6.out 5).trans rfl
  have cf6 := (blk_cell B6.out 6).trans rfl
  have cf7 := (blk_cell B6.out 7).trans rfl
  go_wp2_with fail
  go_at_call 17
  with_reducible refine (laws_eqPipeOut.calls k g0 g1 g2 g3 A8 c8 g4 D8 e8 g5 g6 g7 s0 s1 s2 s3 A6 c6 s4 D6 e6 s5 s6 s7 true _ (Kd.R_reads' R6.out).2.2 (Kd.R_reads' R6.out).2.1 (Kd.R_reads' R7.out).2.2 (Kd.R_reads' R7.out).2.1 (Kd.R_reads' R4.out).2.2 (Kd.R_reads' R4.out).2.1 (Kd.R_reads' R5.out).2.2 (Kd.R_reads' R5.out).2.1 QE.out).mono ?_
  rintro e w15 ⟨rfl, hb⟩
  clear ce0 ce1 ce2 ce3 ce4 ce5 ce6 ce7 cf0 cf1 cf2 cf3 cf4 cf5 cf6 cf7
  replace FA := Aside0.mk (blk_below FA.out hb)
  replace FX := Aside0.mk (blk_below FX.out hb)
  replace BL := Aside0.mk (below_step BL.out hb)
  replace B6 := Aside0.mk (blk_below B6.out hb)
  replace R4 := Aside0.mk (Kd.R_below R4.out hb)
  replace R5 := Aside0.mk (Kd.R_below R5.out hb)
  replace B8 := Aside0.mk (blk_below B8.out hb)
  replace R6 := Aside0.mk (Kd.R_below R6.out hb)
  replace R7 := Aside0.mk (Kd.R_below R7.out hb)
  clear hb
  have ce0 := (blk_cell B8.out 0).trans rfl
  have ce1 := (blk_cell B8.out 1).trans rfl
  have ce2 := (blk_cell B8.out 2).trans rfl
  have ce3 := (blk_cell B8.out 3).trans rfl
  have ce4 := (blk_cell B8.out 4).trans rfl
  have ce5 := (blk_cell B8.out 5).trans rfl
  have ce6 := (blk_cell B8.out 6).trans rfl
  have ce7 := (blk_cell B8.out 7).trans rfl
  go_wp2_with fail
  go_at_call 18
  with_reducible refine (laws_markPipeOut.calls k g0 g1 g2 g3 (fun k_ => some k_ = (.slice A8 g4.length c8 : Value).ownBlock) (.slice A8 g4.length c8) g4 (fun k_ => some k_ = (.slice D8 g5.length e8 : Value).ownBlock) (.slice D8 g5.length e8) g5 g6 g7 1 _ mg4 mg5 w _ BL.out (Kd.R_lower (Kd.R_tight rfl R6.out) N08.out) (fun k e e2 => absurd e2 (laws_FnExactPipeHear.ok_ R6.out k e.symm).2) (Kd.R_lower (Kd.R_tight rfl R7.out) N08.out) (fun k e e2 => absurd e2 (laws_FnExactPipeHear.ok_ R7.out k e.symm).2) QM.out).mono ?_
  rintro e w16 ⟨rfl, h4, h5, hbl, hk⟩
  replace BL := Aside0.mk hbl
  clear ce0 ce1 ce2 ce3 ce4 ce5 ce6 ce7
  replace FA := Aside0.mk (laws_FnExactPipeHear.blk_kept FA.out hk (fun e => e.elim (Kd.R_ne R6.out FA.out (by decide)) (Kd.R_ne R7.out FA.out (by decide))))
  replace FX := Aside0.mk (laws_FnExactPipeHear.blk_kept FX.out hk (fun e => e.elim (Kd.R_ne R6.out FX.out (by decide)) (Kd.R_ne R7.out FX.out (by decide))))
  replace B6 := Aside0.mk (laws_FnExactPipeHear.blk_kept B6.out hk (fun e => e.elim (Kd.R_ne R6.out B6.out (by decide)) (Kd.R_ne R7.out B6.out (by decide))))
  replace B8 := Aside0.mk (laws_FnExactPipeHear.blk_kept B8.out hk (fun e => e.elim (Kd.R_ne R6.out B8.out (by decide)) (Kd.R_ne R7.out B8.out (by decide))))
  replace R4 := Aside0.mk (Kd.R_kept R4.out hk (fun k h e => Nat.lt_irrefl _ (Nat.lt_of_lt_of_le (Nat.lt_of_lt_of_le h N58.out) (e.elim (fun e => (laws_FnExactPipeHear.ok_ R6.out k e.symm).1) (fun e => (laws_FnExactPipeHear.ok_ R7.out k e.symm).1)))))
  replace R5 := Aside0.mk (Kd.R_kept R5.out hk (fun k h e => Nat.lt_irrefl _ (Nat.lt_of_lt_of_le (Nat.lt_of_lt_of_le h N58.out) (e.elim (fun e => (laws_FnExactPipeHear.ok_ R6.out k e.symm).1) (fun e => (laws_FnExactPipeHear.ok_ R7.out k e.symm).1)))))
  have M4 := Aside0.mk (Kd.R_mono h4 (ok' := fun _ => True) (fun _ _ => trivial))
  have M5 := Aside0.mk (Kd.R_mono h5 (ok' := fun _ => True) (fun _ _ => trivial))
  clear h4 h5 hbl hk R6 R7
  have l4 := Aside0.mk (Kd.R_reads' M4.out).1
  have l5 := Aside0.mk (Kd.R_reads' M5.out).1
  have ce0 := (blk_cell B8.out 0).trans rfl
  have ce1 := (blk_cell B8.out 1).trans rfl
  have ce2 := (blk_cell B8.out 2).trans rfl
  have ce3 := (blk_cell B8.out 3).trans rfl
  have ce4 := (blk_cell B8.out 4).trans rfl
  have ce5 := (blk_cell B8.out 5).trans rfl
  have ce6 := (blk_cell B8.out 6).trans rfl
  have ce7 := (blk_cell B8.out 7).trans rfl
  have hc := laws_heldPipeOut.calls k g0 g1 g2 g3 A8 c8 mg4 D8 e8 mg5 g6 g7 1 q w16 (Kd.R_reads' M4.out).2.2 (l4.out ▸ (Kd.R_reads' M4.out).2.1) (Kd.R_reads' M5.out).2.2 (l5.out ▸ (Kd.R_reads' M5.out).2.1) QH.out
  rw [← l4.out, ← l5.out] at hc
  go_wp2_with fail
  go_at_call 19
  with_reducible refine hc.mono ?_
  rintro e w17 ⟨rfl, hb⟩
  clear ce0 ce1 ce2 ce3 ce4 ce5 ce6 ce7
  clear hc
  replace FA := Aside0.mk (blk_below FA.out hb)
  replace FX := Aside0.mk (blk_below FX.out hb)
  replace BL := Aside0.mk (below_step BL.out hb)
  replace B6 := Aside0.mk (blk_below B6.out hb)
  replace R4 := Aside0.mk (Kd.R_below R4.out hb)
  replace R5 := Aside0.mk (Kd.R_below R5.out hb)
  replace B8 := Aside0.mk (blk_below B8.out hb)
  replace M4 := Aside0.mk (Kd.R_below M4.out hb)
  replace M5 := Aside0.mk (Kd.R_below M5.out hb)
  clear hb
  have dq : decide (q < 0) = false := decide_eq_false (by omega)
  have qq : (q != q) = false := by simp
  have qq2 : (q == q) = true := by simp
  go_upto_region 27 with (fail)
  refine start_ (n := 7) (S := fun w' => Below w17.heap.size w17 w') (ds := []) #[false, false, false, false, false, false, false] (by kernel_rfl) rfl rfl (below_drew1 (Below.refl _ _)) (fun hHeld => ?_)
  have BW := Aside0.mk (show Below w17.heap.size w17 w17.drew from below_drew1 (Below.refl _ _))
  generalize w17.drew = W_ at BW hHeld ⊢
  refine take_ (i := 0) (N := some 65) (v := ?_) (a' := ?_) #[true, false, false, false, false, false, false] rfl rfl (by kernel_rfl) (fun _ _ _ h => h) (Or.inl ⟨by rfl, ?_⟩) hHeld ?_ ?_
  rotate_left
  · intro w' s0
    have cb0 := (blk_cell (blk_below FA.out s0) 0).trans rfl
    have cb1 := (blk_cell (blk_below FA.out s0) 1).trans rfl
    have cb2 := (blk_cell (blk_below FA.out s0) 2).trans rfl
    have cb3 := (blk_cell (blk_below FA.out s0) 3).trans rfl
    have cb4 := (blk_cell (blk_below FA.out s0) 4).trans rfl
    go_simp
    with_reducible rfl
  rotate_left
  · simp only [Act.put, List.setIfInBounds_toArray, List.set_cons_zero, List.set_cons_succ, i64_w, i32_w]
    rfl
  refine take_ (i := 2) (N := some 67) (v := ?_) (a' := ?_) #[true, false, true, false, false, false, false] rfl rfl (by kernel_rfl) (fun _ _ _ h => h) (Or.inl ⟨by rfl, ?_⟩) hHeld ?_ ?_
  rotate_left
  · intro w' s0
    have cb0 := (blk_cell (blk_below FX.out s0) 0).trans rfl
    have cb1 := (blk_cell (blk_below FX.out s0) 1).trans rfl
    have cb2 := (blk_cell (blk_below FX.out s0) 2).trans rfl
    have cb3 := (blk_cell (blk_below FX.out s0) 3).trans rfl
    have cb4 := (blk_cell (blk_below FX.out s0) 4).trans rfl
    go_simp
    with_reducible rfl
  rotate_left
  · simp only [Act.put, List.setIfInBounds_toArray, List.set_cons_zero, List.set_cons_succ, i64_w, i32_w]
    rfl
  refine join_ (σ := Value × Value × Value × Nat) 1 #[true, true, true, true, true, true, false] (fun s_ => [(66, .agg #[.int .i64 p0, .int .i64 p1, .int .i64 p2, .int .i64 p3, s_.1]), (68, .agg #[.int .i64 y0, .int .i64 y1, .int .i64 y2, .int .i64 y3, .string y4]), (69, .agg #[.int .i64 g0, .int .i64 g1, .int .i64 g2, .int .i64 g3, s_.2.1, s_.2.2.1, .bool g6, .int .i64 g7]), (12, .pointer (some ⟨s_.2.2.2, 0, none⟩))]) (fun s_ w' => Below w17.heap.size w17 w' ∧ (w17.heap.size ≤ s_.2.2.2) ∧ (w'.heap[s_.2.2.2]? = some (.cells #[.int .i64 0, .int .i64 0, .int .i64 0, .int .i64 0, .slice none 0 0, .slice none 0 0, .bool false, .int .i64 0] 26 (0, 0))) ∧ (Kd.R Kd.string 9 w' w17.heap.size (fun k_ => some k_ ≠ (s_.2.2.1 : Value).ownBlock) s_.2.1 g4) ∧ (Kd.R Kd.string 9 w' w17.heap.size (fun k_ => some k_ ≠ (s_.2.1 : Value).ownBlock) s_.2.2.1 g5)) ?_ (fun hCont => ?_)
  rotate_left
  · skip
    refine two_ (i := 1) (j := 5) (Ni := some 66) (Nj := some 12) #[true, true, true, false, false, false, false] #[true, false, true, false, false, true, false] rfl rfl rfl rfl (by kernel_rfl) (by decide) (by decide) (fun K hK => ?_) (fun K hK => ?_)
    · skip
      refine goes_ Try.func58 (by kernel_rfl) rfl #[.agg #[.int .i64 a0_0, .int .i64 a0_1, .int .i64 a0_2, .int .i64 a0_3, .slice A0_4 l0_4.length c0_4]] (by rfl) rfl rfl (by (try simp only [List.map_toArray, List.map_cons, List.map_nil]); first | done | rfl | (simp only [List.length_drop, List.length_take]; rfl)) ?_
      with_reducible refine (laws_toPipe.calls k a0_0 a0_1 a0_2 a0_3 A0_4 c0_4 l0_4 p0 p1 p2 p3 pl _ (Kd.C_below HR.out (below_step BL.out BW.out)) HC.out QP.out).mono ?_
      rintro e w_ ⟨vp, rfl, ho, hb⟩
      obtain ⟨Ar, cr, rfl⟩ := Kd.R_slice ho
      refine ⟨_, rfl, ?_⟩
      have HV := Aside0.mk (ho)
      replace BW := Aside0.mk (below_step BW.out hb)
      clear hb
      refine hK.out _ _ BW.out (fun hHeld => ?_)
      clear hK K
      refine norm_ (a' := ?_) ?_ ?_
      rotate_left
      · show Act.put _ (some 66) _ = _
        simp only [Act.put, List.setIfInBounds_toArray, List.set_cons_zero, List.set_cons_succ, i64_w, i32_w]
        rfl
      refine two_ (i := 3) (j := 5) (Ni := some 68) (Nj := some 12) #[true, true, true, true, false, false, false] #[true, true, true, false, false, true, false] rfl rfl rfl rfl (by kernel_rfl) (by decide) (by decide) (fun K hK => ?_) (fun K hK => ?_)
      · skip
        refine goes_ Try.func22 (by kernel_rfl) rfl #[.agg #[.int .i64 a1_0, .int .i64 a1_1, .int .i64 a1_2, .int .i64 a1_3, .string a1_4]] (by rfl) rfl rfl (by (try simp only [List.map_toArray, List.map_cons, List.map_nil]); first | done | rfl | (simp only [List.length_drop, List.length_take]; rfl)) ?_
        with_reducible refine (laws_toPacket.calls a1_0 a1_1 a1_2 a1_3 a1_4 y0 y1 y2 y3 y4 _ QY.out).mono ?_
        rintro e w_ ⟨rfl, hb⟩
        refine ⟨_, rfl, ?_⟩
        replace BW := Aside0.mk (below_step BW.out hb)
        replace HV := Aside0.mk (Kd.R_below HV.out hb)
        clear hb
        refine hK.out _ _ BW.out (fun hHeld => ?_)
        clear hK K
        refine norm_ (a' := ?_) ?_ ?_
        rotate_left
        · show Act.put _ (some 68) _ = _
          simp only [Act.put, List.setIfInBounds_toArray, List.set_cons_zero, List.set_cons_succ, i64_w, i32_w]
          rfl
        refine two_ (i := 4) (j := 5) (Ni := some 69) (Nj := some 12) #[true, true, true, true, true, false, false] #[true, true, true, true, false, true, false] rfl rfl rfl rfl (by kernel_rfl) (by decide) (by decide) (fun K hK => ?_) (fun K hK => ?_)
        · skip
          refine goes_ Try.func75 (by kernel_rfl) rfl #[.agg #[.int .i64 p0, .int .i64 p1, .int .i64 p2, .int .i64 p3, .slice Ar pl.length cr], .agg #[.int .i64 y0, .int .i64 y1, .int .i64 y2, .int .i64 y3, .string y4]] (by rfl) rfl rfl (by (try simp only [List.map_toArray, List.map_cons, List.map_nil]); first | done | rfl | (simp only [List.length_drop, List.length_take]; rfl)) ?_
          with_reducible refine (impl_PipeHear.calls p0 p1 p2 p3 Ar cr pl y0 y1 y2 y3 y4 g0 g1 g2 g3 g4 g5 g6 g7 _ ((Kd.R_reads' HV.out).2.2) (Kd.R_reads' HV.out).2.1 QG.out).mono ?_
          rintro e w_ ⟨v4, v5, rfl, ho4, ho5, hb⟩
          refine ⟨_, rfl, ?_⟩
          have N4 := Aside0.mk (Kd.R_lower ho4 BW.out.size)
          have N5 := Aside0.mk (Kd.R_lower ho5 BW.out.size)
          replace BW := Aside0.mk (below_step BW.out hb)
          replace HV := Aside0.mk (Kd.R_below HV.out hb)
          clear hb
          refine hK.out _ _ BW.out (fun hHeld => ?_)
          clear hK K
          refine norm_ (a' := ?_) ?_ ?_
          rotate_left
          · show Act.put _ (some 69) _ = _
            simp only [Act.put, List.setIfInBounds_toArray, List.set_cons_zero, List.set_cons_succ, i64_w, i32_w]
            rfl
          refine one_ (i := 5) (N := some 12) #[true, true, true, true, true, true, false] rfl rfl (by kernel_rfl) (by decide) (fun K hK => ?_)
          refine box_step ?hg (N := 12) ?hd (cs := #[.int .i64 0, .int .i64 0, .int .i64 0, .int .i64 0, .slice none 0 0, .slice none 0 0, .bool false, .int .i64 0]) (t := 26) ?hr ?_; (case hd => rfl); (case hg => rfl); (case hr => first | (go_simp; done) | (go_simp; rfl))
          intro gb_ hg w_ hbox hb
          have GB := Aside0.mk (show w17.heap.size ≤ gb_ by rw [hg]; exact BW.out.size)
          have B_ := Aside0.mk hbox
          clear hbox hg
          replace BW := Aside0.mk (below_step BW.out hb)
          replace HV := Aside0.mk (Kd.R_below HV.out hb)
          replace N4 := Aside0.mk (Kd.R_below N4.out hb)
          replace N5 := Aside0.mk (Kd.R_below N5.out hb)
          clear hb
          refine hK.out _ _ BW.out (fun hHeld => ?_)
          clear hK K
          refine norm_ (a' := ?_) ?_ ?_
          rotate_left
          · show Act.put _ (some 12) _ = _
            simp only [Act.put, List.setIfInBounds_toArray, List.set_cons_zero, List.set_cons_succ, i64_w, i32_w]
            rfl
          exact norm_ (by simp only [putAll, Act.put, List.setIfInBounds_toArray, List.set_cons_zero, List.set_cons_succ]) (hCont (.slice Ar pl.length cr, v4, v5, gb_) _ ⟨BW.out, GB.out, B_.out, N4.out, N5.out⟩)
        · skip
          refine box_step ?hg (N := 12) ?hd (cs := #[.int .i64 0, .int .i64 0, .int .i64 0, .int .i64 0, .slice none 0 0, .slice none 0 0, .bool false, .int .i64 0]) (t := 26) ?hr ?_; (case hd => rfl); (case hg => rfl); (case hr => first | (go_simp; done) | (go_simp; rfl))
          intro gb_ hg w_ hbox hb
          have GB := Aside0.mk (show w17.heap.size ≤ gb_ by rw [hg]; exact BW.out.size)
          have B_ := Aside0.mk hbox
          clear hbox hg
          replace BW := Aside0.mk (below_step BW.out hb)
          replace HV := Aside0.mk (Kd.R_below HV.out hb)
          clear hb
          refine hK.out _ _ BW.out (fun hHeld => ?_)
          clear hK K
          refine norm_ (a' := ?_) ?_ ?_
          rotate_left
          · show Act.put _ (some 12) _ = _
            simp only [Act.put, List.setIfInBounds_toArray, List.set_cons_zero, List.set_cons_succ, i64_w, i32_w]
            rfl
          refine one_ (i := 4) (N := some 69) #[true, true, true, true, true, true, false] rfl rfl (by kernel_rfl) (by decide) (fun K hK => ?_)
          refine goes_ Try.func75 (by kernel_rfl) rfl #[.agg #[.int .i64 p0, .int .i64 p1, .int .i64 p2, .int .i64 p3, .slice Ar pl.length cr], .agg #[.int .i64 y0, .int .i64 y1, .int .i64 y2, .int .i64 y3, .string y4]] (by rfl) rfl rfl (by (try simp only [List.map_toArray, List.map_cons, List.map_nil]); first | done | rfl | (simp only [List.length_drop, List.length_take]; rfl)) ?_
          with_reducible refine (impl_PipeHear.calls p0 p1 p2 p3 Ar cr pl y0 y1 y2 y3 y4 g0 g1 g2 g3 g4 g5 g6 g7 _ ((Kd.R_reads' HV.out).2.2) (Kd.R_reads' HV.out).2.1 QG.out).mono ?_
          rintro e w_ ⟨v4, v5, rfl, ho4, ho5, hb⟩
          refine ⟨_, rfl, ?_⟩
          have N4 := Aside0.mk (Kd.R_lower ho4 BW.out.size)
          have N5 := Aside0.mk (Kd.R_lower ho5 BW.out.size)
          replace BW := Aside0.mk (below_step BW.out hb)
          replace HV := Aside0.mk (Kd.R_below HV.out hb)
          replace B_ := Aside0.mk (blk_below B_.out hb)
          clear hb
          refine hK.out _ _ BW.out (fun hHeld => ?_)
          clear hK K
          refine norm_ (a' := ?_) ?_ ?_
          rotate_left
          · show Act.put _ (some 69) _ = _
            simp only [Act.put, List.setIfInBounds_toArray, List.set_cons_zero, List.set_cons_succ, i64_w, i32_w]
            rfl
          exact norm_ (by simp only [putAll, Act.put, List.setIfInBounds_toArray, List.set_cons_zero, List.set_cons_succ]) (hCont (.slice Ar pl.length cr, v4, v5, gb_) _ ⟨BW.out, GB.out, B_.out, N4.out, N5.out⟩)
      · skip
        refine box_step ?hg (N := 12) ?hd (cs := #[.int .i64 0, .int .i64 0, .int .i64 0, .int .i64 0, .slice none 0 0, .slice none 0 0, .bool false, .int .i64 0]) (t := 26) ?hr ?_; (case hd => rfl); (case hg => rfl); (case hr => first | (go_simp; done) | (go_simp; rfl))
        intro gb_ hg w_ hbox hb
        have GB := Aside0.mk (show w17.heap.size ≤ gb_ by rw [hg]; exact BW.out.size)
        have B_ := Aside0.mk hbox
        clear hbox hg
        replace BW := Aside0.mk (below_step BW.out hb)
        replace HV := Aside0.mk (Kd.R_below HV.out hb)
        clear hb
        refine hK.out _ _ BW.out (fun hHeld => ?_)
        clear hK K
        refine norm_ (a' := ?_) ?_ ?_
        rotate_left
        · show Act.put _ (some 12) _ = _
          simp only [Act.put, List.setIfInBounds_toArray, List.set_cons_zero, List.set_cons_succ, i64_w, i32_w]
          rfl
        refine one_ (i := 3) (N := some 68) #[true, true, true, true, false, true, false] rfl rfl (by kernel_rfl) (by decide) (fun K hK => ?_)
        refine goes_ Try.func22 (by kernel_rfl) rfl #[.agg #[.int .i64 a1_0, .int .i64 a1_1, .int .i64 a1_2, .int .i64 a1_3, .string a1_4]] (by rfl) rfl rfl (by (try simp only [List.map_toArray, List.map_cons, List.map_nil]); first | done | rfl | (simp only [List.length_drop, List.length_take]; rfl)) ?_
        with_reducible refine (laws_toPacket.calls a1_0 a1_1 a1_2 a1_3 a1_4 y0 y1 y2 y3 y4 _ QY.out).mono ?_
        rintro e w_ ⟨rfl, hb⟩
        refine ⟨_, rfl, ?_⟩
        replace BW := Aside0.mk (below_step BW.out hb)
        replace HV := Aside0.mk (Kd.R_below HV.out hb)
        replace B_ := Aside0.mk (blk_below B_.out hb)
        clear hb
        refine hK.out _ _ BW.out (fun hHeld => ?_)
        clear hK K
        refine norm_ (a' := ?_) ?_ ?_
        rotate_left
        · show Act.put _ (some 68) _ = _
          simp only [Act.put, List.setIfInBounds_toArray, List.set_cons_zero, List.set_cons_succ, i64_w, i32_w]
          rfl
        refine one_ (i := 4) (N := some 69) #[true, true, true, true, true, true, false] rfl rfl (by kernel_rfl) (by decide) (fun K hK => ?_)
        refine goes_ Try.func75 (by kernel_rfl) rfl #[.agg #[.int .i64 p0, .int .i64 p1, .int .i64 p2, .int .i64 p3, .slice Ar pl.length cr], .agg #[.int .i64 y0, .int .i64 y1, .int .i64 y2, .int .i64 y3, .string y4]] (by rfl) rfl rfl (by (try simp only [List.map_toArray, List.map_cons, List.map_nil]); first | done | rfl | (simp only [List.length_drop, List.length_take]; rfl)) ?_
        with_reducible refine (impl_PipeHear.calls p0 p1 p2 p3 Ar cr pl y0 y1 y2 y3 y4 g0 g1 g2 g3 g4 g5 g6 g7 _ ((Kd.R_reads' HV.out).2.2) (Kd.R_reads' HV.out).2.1 QG.out).mono ?_
        rintro e w_ ⟨v4, v5, rfl, ho4, ho5, hb⟩
        refine ⟨_, rfl, ?_⟩
        have N4 := Aside0.mk (Kd.R_lower ho4 BW.out.size)
        have N5 := Aside0.mk (Kd.R_lower ho5 BW.out.size)
        replace BW := Aside0.mk (below_step BW.out hb)
        replace HV := Aside0.mk (Kd.R_below HV.out hb)
        replace B_ := Aside0.mk (blk_below B_.out hb)
        clear hb
        refine hK.out _ _ BW.out (fun hHeld => ?_)
        clear hK K
        refine norm_ (a' := ?_) ?_ ?_
        rotate_left
        · show Act.put _ (some 69) _ = _
          simp only [Act.put, List.setIfInBounds_toArray, List.set_cons_zero, List.set_cons_succ, i64_w, i32_w]
          rfl
        exact norm_ (by simp only [putAll, Act.put, List.setIfInBounds_toArray, List.set_cons_zero, List.set_cons_succ]) (hCont (.slice Ar pl.length cr, v4, v5, gb_) _ ⟨BW.out, GB.out, B_.out, N4.out, N5.out⟩)
    · skip
      refine box_step ?hg (N := 12) ?hd (cs := #[.int .i64 0, .int .i64 0, .int .i64 0, .int .i64 0, .slice none 0 0, .slice none 0 0, .bool false, .int .i64 0]) (t := 26) ?hr ?_; (case hd => rfl); (case hg => rfl); (case hr => first | (go_simp; done) | (go_simp; rfl))
      intro gb_ hg w_ hbox hb
      have GB := Aside0.mk (show w17.heap.size ≤ gb_ by rw [hg]; exact BW.out.size)
      have B_ := Aside0.mk hbox
      clear hbox hg
      replace BW := Aside0.mk (below_step BW.out hb)
      clear hb
      refine hK.out _ _ BW.out (fun hHeld => ?_)
      clear hK K
      refine norm_ (a' := ?_) ?_ ?_
      rotate_left
      · show Act.put _ (some 12) _ = _
        simp only [Act.put, List.setIfInBounds_toArray, List.set_cons_zero, List.set_cons_succ, i64_w, i32_w]
        rfl
      refine one_ (i := 1) (N := some 66) #[true, true, true, false, false, true, false] rfl rfl (by kernel_rfl) (by decide) (fun K hK => ?_)
      refine goes_ Try.func58 (by kernel_rfl) rfl #[.agg #[.int .i64 a0_0, .int .i64 a0_1, .int .i64 a0_2, .int .i64 a0_3, .slice A0_4 l0_4.length c0_4]] (by rfl) rfl rfl (by (try simp only [List.map_toArray, List.map_cons, List.map_nil]); first | done | rfl | (simp only [List.length_drop, List.length_take]; rfl)) ?_
      with_reducible refine (laws_toPipe.calls k a0_0 a0_1 a0_2 a0_3 A0_4 c0_4 l0_4 p0 p1 p2 p3 pl _ (Kd.C_below HR.out (below_step BL.out BW.out)) HC.out QP.out).mono ?_
      rintro e w_ ⟨vp, rfl, ho, hb⟩
      obtain ⟨Ar, cr, rfl⟩ := Kd.R_slice ho
      refine ⟨_, rfl, ?_⟩
      have HV := Aside0.mk (ho)
      replace BW := Aside0.mk (below_step BW.out hb)
      replace B_ := Aside0.mk (blk_below B_.out hb)
      clear hb
      refine hK.out _ _ BW.out (fun hHeld => ?_)
      clear hK K
      refine norm_ (a' := ?_) ?_ ?_
      rotate_left
      · show Act.put _ (some 66) _ = _
        simp only [Act.put, List.setIfInBounds_toArray, List.set_cons_zero, List.set_cons_succ, i64_w, i32_w]
        rfl
      refine one_ (i := 3) (N := some 68) #[true, true, true, true, false, true, false] rfl rfl (by kernel_rfl) (by decide) (fun K hK => ?_)
      refine goes_ Try.func22 (by kernel_rfl) rfl #[.agg #[.int .i64 a1_0, .int .i64 a1_1, .int .i64 a1_2, .int .i64 a1_3, .string a1_4]] (by rfl) rfl rfl (by (try simp only [List.map_toArray, List.map_cons, List.map_nil]); first | done | rfl | (simp only [List.length_drop, List.length_take]; rfl)) ?_
      with_reducible refine (laws_toPacket.calls a1_0 a1_1 a1_2 a1_3 a1_4 y0 y1 y2 y3 y4 _ QY.out).mono ?_
      rintro e w_ ⟨rfl, hb⟩
      refine ⟨_, rfl, ?_⟩
      replace BW := Aside0.mk (below_step BW.out hb)
      replace B_ := Aside0.mk (blk_below B_.out hb)
      replace HV := Aside0.mk (Kd.R_below HV.out hb)
      clear hb
      refine hK.out _ _ BW.out (fun hHeld => ?_)
      clear hK K
      refine norm_ (a' := ?_) ?_ ?_
      rotate_left
      · show Act.put _ (some 68) _ = _
        simp only [Act.put, List.setIfInBounds_toArray, List.set_cons_zero, List.set_cons_succ, i64_w, i32_w]
        rfl
      refine one_ (i := 4) (N := some 69) #[true, true, true, true, true, true, false] rfl rfl (by kernel_rfl) (by decide) (fun K hK => ?_)
      refine goes_ Try.func75 (by kernel_rfl) rfl #[.agg #[.int .i64 p0, .int .i64 p1, .int .i64 p2, .int .i64 p3, .slice Ar pl.length cr], .agg #[.int .i64 y0, .int .i64 y1, .int .i64 y2, .int .i64 y3, .string y4]] (by rfl) rfl rfl (by (try simp only [List.map_toArray, List.map_cons, List.map_nil]); first | done | rfl | (simp only [List.length_drop, List.length_take]; rfl)) ?_
      with_reducible refine (impl_PipeHear.calls p0 p1 p2 p3 Ar cr pl y0 y1 y2 y3 y4 g0 g1 g2 g3 g4 g5 g6 g7 _ ((Kd.R_reads' HV.out).2.2) (Kd.R_reads' HV.out).2.1 QG.out).mono ?_
      rintro e w_ ⟨v4, v5, rfl, ho4, ho5, hb⟩
      refine ⟨_, rfl, ?_⟩
      have N4 := Aside0.mk (Kd.R_lower ho4 BW.out.size)
      have N5 := Aside0.mk (Kd.R_lower ho5 BW.out.size)
      replace BW := Aside0.mk (below_step BW.out hb)
      replace B_ := Aside0.mk (blk_below B_.out hb)
      replace HV := Aside0.mk (Kd.R_below HV.out hb)
      clear hb
      refine hK.out _ _ BW.out (fun hHeld => ?_)
      clear hK K
      refine norm_ (a' := ?_) ?_ ?_
      rotate_left
      · show Act.put _ (some 69) _ = _
        simp only [Act.put, List.setIfInBounds_toArray, List.set_cons_zero, List.set_cons_succ, i64_w, i32_w]
        rfl
      exact norm_ (by simp only [putAll, Act.put, List.setIfInBounds_toArray, List.set_cons_zero, List.set_cons_succ]) (hCont (.slice Ar pl.length cr, v4, v5, gb_) _ ⟨BW.out, GB.out, B_.out, N4.out, N5.out⟩)
  rintro ⟨vp_, v4, v5, kt⟩ W_ ⟨bw, gb, b_, r4, r5⟩
  obtain ⟨At, ct, rfl⟩ := Kd.R_slice r4
  obtain ⟨Dt, et, rfl⟩ := Kd.R_slice r5
  have GB := Aside0.mk gb
  have BQ := Aside0.mk b_
  have N4 := Aside0.mk r4
  have N5 := Aside0.mk r5
  have BW := Aside0.mk bw
  clear gb b_ r4 r5 bw
  refine norm_ (a' := ?_) ?_ ?_
  rotate_left
  · simp only [putAll, Act.put, List.setIfInBounds_toArray, List.set_cons_zero, List.set_cons_succ]
    rfl
  refine one_ (i := 6) (N := none) #[true, true, true, true, true, true, true] rfl rfl (by kernel_rfl) (by decide) (fun K hK => ?_)
  obtain ⟨o0, o1, o2, o3, o4, o5, o6, o7, f0, f1, f2, f3, f4, f5, f6, f7⟩ := impl_PipeHear.ofacts BQ.out
  refine skip_ (w1 := ?_) (by rfl) rfl ?_ ?_
  rotate_left
  · go_simp
    rfl
  refine hK.out _ _ (impl_PipeHear.set8 GB.out BW.out _ _ _ _ _ _ _ _) (fun hHeld => ?_)
  clear hK K o0 f0 o1 f1 o2 f2 o3 f3 o4 f4 o5 f5 o6 f6 o7 f7
  refine done_ (by kernel_rfl) ?_
  go_upto_region 28 with (fail)
  refine laws_FnExactPipeHear.gen (fun W => (Below w.heap.size w W) ∧ (W.heap[k6]? = some (.cells #[.int .i64 s0, .int .i64 s1, .int .i64 s2, .int .i64 s3, .slice A6 s4.length c6, .slice D6 s5.length e6, .bool s6, .int .i64 s7] 26 (0, 0))) ∧ (Kd.R Kd.string 9 W w.heap.size (fun k_ => k_ < w5.heap.size) (.slice A6 s4.length c6) s4) ∧ (Kd.R Kd.string 9 W w.heap.size (fun k_ => k_ < w5.heap.size) (.slice D6 s5.length e6) s5) ∧ (W.heap[k8]? = some (.cells #[.int .i64 g0, .int .i64 g1, .int .i64 g2, .int .i64 g3, .slice A8 g4.length c8, .slice D8 g5.length e8, .bool g6, .int .i64 g7] 26 (0, 0))) ∧ (Kd.R Kd.string 9 W w.heap.size (fun _ => True) (.slice A8 g4.length c8) mg4) ∧ (Kd.R Kd.string 9 W w.heap.size (fun _ => True) (.slice D8 g5.length e8) mg5) ∧ (W.heap[kt]? = some (.cells #[.int .i64 g0, .int .i64 g1, .int .i64 g2, .int .i64 g3, .slice At g4.length ct, .slice Dt g5.length et, .bool g6, .int .i64 g7] 26 (0, 0))) ∧ (Kd.R Kd.string 9 W w.heap.size (fun _ => True) (.slice At g4.length ct) g4) ∧ (Kd.R Kd.string 9 W w.heap.size (fun _ => True) (.slice Dt g5.length et) g5)) ⟨below_step BL.out hHeld, blk_below B6.out hHeld, Kd.R_below R4.out hHeld, Kd.R_below R5.out hHeld, blk_below B8.out hHeld, Kd.R_below M4.out hHeld, Kd.R_below M5.out hHeld, (impl_PipeHear.fin BQ.out _ _ _ _ _ _ _ _), Kd.R_mono (Kd.R_lower (impl_PipeHear.row8 BQ.out N4.out _ _ _ _ _ _ _ _) BL.out.size) (fun _ _ => trivial), Kd.R_mono (Kd.R_lower (impl_PipeHear.row8 BQ.out N5.out _ _ _ _ _ _ _ _) BL.out.size) (fun _ _ => trivial)⟩ ?_
  clear FA FX BL B6 R4 R5 B8 M4 M5 hHeld N4 N5 BQ GB BW
  rintro w18 ⟨bl_, b6_, r4_, r5_, b8_, m4_, m5_, bt_, rt_, ru_⟩
  have BL := Aside0.mk bl_
  have B6 := Aside0.mk b6_
  have R4 := Aside0.mk r4_
  have R5 := Aside0.mk r5_
  have B8 := Aside0.mk b8_
  have M4 := Aside0.mk m4_
  have M5 := Aside0.mk m5_
  have BT := Aside0.mk bt_
  have RT := Aside0.mk rt_
  have RU := Aside0.mk ru_
  clear bl_ b6_ r4_ r5_ b8_ m4_ m5_ bt_ rt_ ru_
  have cg0 := (blk_cell BT.out 0).trans rfl
  have cg1 := (blk_cell BT.out 1).trans rfl
  have cg2 := (blk_cell BT.out 2).trans rfl
  have cg3 := (blk_cell BT.out 3).trans rfl
  have cg4 := (blk_cell BT.out 4).trans rfl
  have cg5 := (blk_cell BT.out 5).trans rfl
  have cg6 := (blk_cell BT.out 6).trans rfl
  have cg7 := (blk_cell BT.out 7).trans rfl
  have cf0 := (blk_cell B6.out 0).trans rfl
  have cf1 := (blk_cell B6.out 1).trans rfl
  have cf2 := (blk_cell B6.out 2).trans rfl
  have cf3 := (blk_cell B6.out 3).trans rfl
  have cf4 := (blk_cell B6.out 4).trans rfl
  have cf5 := (blk_cell B6.out 5).trans rfl
  have cf6 := (blk_cell B6.out 6).trans rfl
  have cf7 := (blk_cell B6.out 7).trans rfl
  go_wp2_with fail
  go_at_call 17
  with_reducible refine (laws_eqPipeOut.calls k g0 g1 g2 g3 At ct g4 Dt et g5 g6 g7 s0 s1 s2 s3 A6 c6 s4 D6 e6 s5 s6 s7 true _ (Kd.R_reads' RT.out).2.2 (Kd.R_reads' RT.out).2.1 (Kd.R_reads' RU.out).2.2 (Kd.R_reads' RU.out).2.1 (Kd.R_reads' R4.out).2.2 (Kd.R_reads' R4.out).2.1 (Kd.R_reads' R5.out).2.2 (Kd.R_reads' R5.out).2.1 QE.out).mono ?_
  rintro e w19 ⟨rfl, hb⟩
  clear cg0 cg1 cg2 cg3 cg4 cg5 cg6 cg7 cf0 cf1 cf2 cf3 cf4 cf5 cf6 cf7
  replace BL := Aside0.mk (below_step BL.out hb)
  replace B6 := Aside0.mk (blk_below B6.out hb)
  replace R4 := Aside0.mk (Kd.R_below R4.out hb)
  replace R5 := Aside0.mk (Kd.R_below R5.out hb)
  replace B8 := Aside0.mk (blk_below B8.out hb)
  replace M4 := Aside0.mk (Kd.R_below M4.out hb)
  replace M5 := Aside0.mk (Kd.R_below M5.out hb)
  replace BT := Aside0.mk (blk_below BT.out hb)
  replace RT := Aside0.mk (Kd.R_below RT.out hb)
  replace RU := Aside0.mk (Kd.R_below RU.out hb)
  clear hb
  have ce0 := (blk_cell B8.out 0).trans rfl
  have ce1 := (blk_cell B8.out 1).trans rfl
  have ce2 := (blk_cell B8.out 2).trans rfl
  have ce3 := (blk_cell B8.out 3).trans rfl
  have ce4 := (blk_cell B8.out 4).trans rfl
  have ce5 := (blk_cell B8.out 5).trans rfl
  have ce6 := (blk_cell B8.out 6).trans rfl
  have ce7 := (blk_cell B8.out 7).trans rfl
  have hc := laws_heldPipeOut.calls k g0 g1 g2 g3 A8 c8 mg4 D8 e8 mg5 g6 g7 1 q w19 (Kd.R_reads' M4.out).2.2 (l4.out ▸ (Kd.R_reads' M4.out).2.1) (Kd.R_reads' M5.out).2.2 (l5.out ▸ (Kd.R_reads' M5.out).2.1) QH.out
  rw [← l4.out, ← l5.out] at hc
  go_wp2_with fail
  go_at_call 19
  with_reducible refine hc.mono ?_
  rintro e w20 ⟨rfl, hb⟩
  clear ce0 ce1 ce2 ce3 ce4 ce5 ce6 ce7
  clear hc
  replace BL := Aside0.mk (below_step BL.out hb)
  clear hb
  go_wp2_with fail
  go_ret
  exact ⟨rfl, BL.out⟩

/-- THE ONE PURE STATEMENT of laws_FnExactPipeHear. -/
def laws_FnExactPipeHear.Pure : Prop := ∀ (a0_0 : Int) (a0_1 : Int) (a0_2 : Int) (a0_3 : Int) (l0_4 : List ByteArray) (a1_0 : Int) (a1_1 : Int) (a1_2 : Int) (a1_3 : Int) (a1_4 : ByteArray), (Lit.int .i64 a0_0).wf = true → (Lit.int .i64 a0_1).wf = true → (Lit.int .i64 a0_2).wf = true → (Lit.int .i64 a0_3).wf = true → (l0_4.length ≤ 9223372036854775807 ∧ (∀ z_, z_ ∈ l0_4 → z_.size ≤ 9223372036854775807)) → (Lit.int .i64 a1_0).wf = true → (Lit.int .i64 a1_1).wf = true → (Lit.int .i64 a1_2).wf = true → (Lit.int .i64 a1_3).wf = true → a1_4.size ≤ 9223372036854775807 → ∃ k, laws_FnExactPipeHear.f k a0_0 a0_1 a0_2 a0_3 l0_4 a1_0 a1_1 a1_2 a1_3 a1_4 = some true

end Go.Proofs.Ytkbhdiambabnnaa.PFnExactPipeHear
