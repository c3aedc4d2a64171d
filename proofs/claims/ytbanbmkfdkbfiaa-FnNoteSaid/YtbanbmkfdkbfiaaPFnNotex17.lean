import Derived.Test.YtbanbmkfdkbfiaaPFnNotex0
import Derived.Test.YtbanbmkfdkbfiaaPFnNotex11
import Derived.Test.YtbanbmkfdkbfiaaPFnNotex14
import Derived.Test.YtbanbmkfdkbfiaaPFnNotex15
import Derived.Test.YtbanbmkfdkbfiaaPFnNotex16
namespace Go.Proofs.Ytbanbmkfdkbfiaa.PFnNote
open Go.RowKit Go.Proofs.YtbanbmkfdkbfiaaW.PrintWords Go.Proofs.YtbanbmkfdkbfiaaW.PrintLast Go.Proofs.YtbanbmkfdkbfiaaW.PrintMore
attribute [local go_sem] max2_int min2_int max_two min_two max_three min_three max_four min_four
set_option linter.unusedVariables false
set_option linter.unusedSimpArgs false
def spec_RouteRead.f (k : Nat) (a0 : ByteArray) : Option (Int × Int × Int × Int × Int × Int × Bool × Int) :=
 if a0.size ≤ 8000 then
  (spec_l03Reader_num.f k a0 0 false).bind fun x1 => (spec_l03Reader_num.f k x1.2.1 x1.2.2.1 x1.2.2.2).bind fun x2 => (spec_l03Reader_num.f k x2.2.1 x2.2.2.1 x2.2.2.2).bind fun x3 => (spec_l03Reader_num.f k x3.2.1 x3.2.2.1 x3.2.2.2).bind fun x4 => (spec_l03Reader_num.f k x4.2.1 x4.2.2.1 x4.2.2.2).bind fun x5 => (spec_l03Reader_num.f k x5.2.1 x5.2.2.1 x5.2.2.2).bind fun x6 => (spec_l03Reader_num.f k x6.2.1 x6.2.2.1 x6.2.2.2).bind fun x7 => 
  if x7.2.2.2 = true then some (0, 0, 0, 0, 0, 0, false, 3) else
  (spec_RouteBytes.f k x1.1 x2.1 x3.1 x4.1 x5.1 x6.1 (x7.1 == 1)).bind fun b => if b = a0 then some (x1.1, x2.1, x3.1, x4.1, x5.1, x6.1, (x7.1 == 1), 0) else some (0, 0, 0, 0, 0, 0, false, 3)
 else some (0, 0, 0, 0, 0, 0, false, 2)
/-- What holds between two calls of the reader: its state, the route's block, the result's block. -/
structure spec_RouteRead.ST (w W : World) (g gx : Nat) (t : ByteArray) (i : Int) (d : Bool) (c : Array Value) : Prop where
 st : IsS96 w W g t i d
 bx : W.heap[gx]? = some (.cells c 24 (0, 0))
 bo : W.heap[w.heap.size]? = some (.cells #[.int .i64 0, .int .i64 0, .int .i64 0, .int .i64 0, .int .i64 0, .int .i64 0, .bool false, .int .i64 0] 29 (0, 0))
 bl : Below w.heap.size w W
theorem spec_RouteRead.ST.call {w W W1 : World} {g gx : Nat} {t t1 : ByteArray} {i i1 : Int} {d d1 : Bool} {c : Array Value} (h : spec_RouteRead.ST w W g gx t i d c) (hI : IsS96 w W1 g t1 i1 d1) (hB : Below w.heap.size w W1) (hK : KeepBut W W1 g none) : spec_RouteRead.ST w W1 g gx t1 i1 d1 c :=
 ⟨hI, hK.blk h.bx (Ne.symm (h.st.ne_blk h.bx (by decide))) (by simp), hK.blk h.bo (Ne.symm (h.st.ne_blk h.bo (by decide))) (by simp), hB⟩
theorem spec_RouteRead.ST.far {w W W1 : World} {g gx : Nat} {t : ByteArray} {i : Int} {d : Bool} {c : Array Value} (h : spec_RouteRead.ST w W g gx t i d c) (hb : Below W.heap.size W W1) : spec_RouteRead.ST w W1 g gx t i d c := ⟨h.st.below hb, blk_below h.bx hb, blk_below h.bo hb, below_step h.bl hb⟩
theorem spec_RouteRead.ST.set {w W : World} {g gx : Nat} {t : ByteArray} {i : Int} {d : Bool} {c : Array Value} (h : spec_RouteRead.ST w W g gx t i d c) (hx : w.heap.size ≤ gx) (j : Nat) (u : Value) : spec_RouteRead.ST w (W.setCell ⟨gx, j, none⟩ u) g gx t i d (c.setIfInBounds j u) :=
 ⟨h.st.far (h.st.ne_blk h.bx (by decide)) u, blk_set h.bx j u, blk_far h.bo (blk_ne h.bo h.bx (by decide)) u, below_set h.bl hx⟩
theorem spec_RouteRead.str_ne {a b : ByteArray} (h : a ≠ b) : (a.toList == b.toList) = false := by
 rw [beq_eq_false_iff_ne, ByteArray.toList_eq, ByteArray.toList_eq]
 intro e
 exact h (ByteArray.ext (Array.toList_inj.1 e))
theorem spec_RouteRead.start (w : World) (a0 : ByteArray) : IsS96 w ((w.alloc (.cells #[.int .i64 0, .int .i64 0, .int .i64 0, .int .i64 0, .int .i64 0, .int .i64 0, .bool false, .int .i64 0] 29)).alloc (.cells #[.string a0, .int .i64 0, .bool false] 96)) (w.heap.size + 1) a0 0 false := by
 have h := IsS96.new w (w.alloc (.cells #[.int .i64 0, .int .i64 0, .int .i64 0, .int .i64 0, .int .i64 0, .int .i64 0, .bool false, .int .i64 0] 29)) a0 0 false (below_alloc (Below.refl _ _) _)
 rwa [show (w.alloc (.cells #[.int .i64 0, .int .i64 0, .int .i64 0, .int .i64 0, .int .i64 0, .int .i64 0, .bool false, .int .i64 0] 29)).heap.size = w.heap.size + 1 from by simp] at h
theorem spec_RouteRead.start_bl (w : World) (a0 : ByteArray) : Below w.heap.size w ((w.alloc (.cells #[.int .i64 0, .int .i64 0, .int .i64 0, .int .i64 0, .int .i64 0, .int .i64 0, .bool false, .int .i64 0] 29)).alloc (.cells #[.string a0, .int .i64 0, .bool false] 96)) := below_alloc (below_alloc (Below.refl _ _) _) _
theorem spec_RouteRead.ST.facts {w W : World} {g gx : Nat} {t : ByteArray} {i : Int} {d : Bool} {x1 x2 x3 x4 x5 x6 : Int} {x7 : Bool} (h : spec_RouteRead.ST w W g gx t i d #[.int .i64 x1, .int .i64 x2, .int .i64 x3, .int .i64 x4, .int .i64 x5, .int .i64 x6, .bool x7]) :
  W.cell? ⟨gx, 0, none⟩ = some (.int .i64 x1) ∧ W.cell? ⟨gx, 1, none⟩ = some (.int .i64 x2) ∧ W.cell? ⟨gx, 2, none⟩ = some (.int .i64 x3) ∧ W.cell? ⟨gx, 3, none⟩ = some (.int .i64 x4) ∧ W.cell? ⟨gx, 4, none⟩ = some (.int .i64 x5) ∧ W.cell? ⟨gx, 5, none⟩ = some (.int .i64 x6) ∧ W.cell? ⟨gx, 6, none⟩ = some (.bool x7) ∧ W.cell? ⟨g, 2, none⟩ = some (.bool d) ∧ W.cell? ⟨w.heap.size, 0, none⟩ = some (.int .i64 0) ∧ W.cell? ⟨w.heap.size, 1, none⟩ = some (.int .i64 0) ∧ W.cell? ⟨w.heap.size, 2, none⟩ = some (.int .i64 0) ∧ W.cell? ⟨w.heap.size, 3, none⟩ = some (.int .i64 0) ∧ W.cell? ⟨w.heap.size, 4, none⟩ = some (.int .i64 0) ∧ W.cell? ⟨w.heap.size, 5, none⟩ = some (.int .i64 0) ∧ W.cell? ⟨w.heap.size, 6, none⟩ = some (.bool false) ∧ W.cell? ⟨w.heap.size, 7, none⟩ = some (.int .i64 0) ∧ W.frozen? ⟨w.heap.size, 0, none⟩ = false ∧ W.frozen? ⟨w.heap.size, 1, none⟩ = false ∧ W.frozen? ⟨w.heap.size, 2, none⟩ = false ∧ W.frozen? ⟨w.heap.size, 3, none⟩ = false ∧ W.frozen? ⟨w.heap.size, 4, none⟩ = false ∧ W.frozen? ⟨w.heap.size, 5, none⟩ = false ∧ W.frozen? ⟨w.heap.size, 6, none⟩ = false ∧ W.frozen? ⟨w.heap.size, 7, none⟩ = false :=
 ⟨(blk_cell h.bx 0).trans rfl, (blk_cell h.bx 1).trans rfl, (blk_cell h.bx 2).trans rfl, (blk_cell h.bx 3).trans rfl, (blk_cell h.bx 4).trans rfl, (blk_cell h.bx 5).trans rfl, (blk_cell h.bx 6).trans rfl, (blk_cell h.st.1 2).trans rfl, (blk_cell h.bo 0).trans rfl, (blk_cell h.bo 1).trans rfl, (blk_cell h.bo 2).trans rfl, (blk_cell h.bo 3).trans rfl, (blk_cell h.bo 4).trans rfl, (blk_cell h.bo 5).trans rfl, (blk_cell h.bo 6).trans rfl, (blk_cell h.bo 7).trans rfl, blk_frozen h.bo 0, blk_frozen h.bo 1, blk_frozen h.bo 2, blk_frozen h.bo 3, blk_frozen h.bo 4, blk_frozen h.bo 5, blk_frozen h.bo 6, blk_frozen h.bo 7⟩
theorem spec_RouteRead.gen {P : Program} {c : Code} {Q : Exit → Act → World → Prop} {a : Act} {w W : World} {g gx : Nat} {t : ByteArray} {i : Int} {d : Bool} {x1 x2 x3 x4 x5 x6 : Int} {x7 : Bool} (h : spec_RouteRead.ST w W g gx t i d #[.int .i64 x1, .int .i64 x2, .int .i64 x3, .int .i64 x4, .int .i64 x5, .int .i64 x6, .bool x7])
  (k : ∀ W1, spec_RouteRead.ST w W1 g gx t i d #[.int .i64 x1, .int .i64 x2, .int .i64 x3, .int .i64 x4, .int .i64 x5, .int .i64 x6, .bool x7] → W1.cell? ⟨gx, 0, none⟩ = some (.int .i64 x1) → W1.cell? ⟨gx, 1, none⟩ = some (.int .i64 x2) → W1.cell? ⟨gx, 2, none⟩ = some (.int .i64 x3) → W1.cell? ⟨gx, 3, none⟩ = some (.int .i64 x4) → W1.cell? ⟨gx, 4, none⟩ = some (.int .i64 x5) → W1.cell? ⟨gx, 5, none⟩ = some (.int .i64 x6) → W1.cell? ⟨gx, 6, none⟩ = some (.bool x7) → W1.cell? ⟨g, 2, none⟩ = some (.bool d) → W1.cell? ⟨w.heap.size, 0, none⟩ = some (.int .i64 0) → W1.cell? ⟨w.heap.size, 1, none⟩ = some (.int .i64 0) → W1.cell? ⟨w.heap.size, 2, none⟩ = some (.int .i64 0) → W1.cell? ⟨w.heap.size, 3, none⟩ = some (.int .i64 0) → W1.cell? ⟨w.heap.size, 4, none⟩ = some (.int .i64 0) → W1.cell? ⟨w.heap.size, 5, none⟩ = some (.int .i64 0) → W1.cell? ⟨w.heap.size, 6, none⟩ = some (.bool false) → W1.cell? ⟨w.heap.size, 7, none⟩ = some (.int .i64 0) → W1.frozen? ⟨w.heap.size, 0, none⟩ = false → W1.frozen? ⟨w.heap.size, 1, none⟩ = false → W1.frozen? ⟨w.heap.size, 2, none⟩ = false → W1.frozen? ⟨w.heap.size, 3, none⟩ = false → W1.frozen? ⟨w.heap.size, 4, none⟩ = false → W1.frozen? ⟨w.heap.size, 5, none⟩ = false → W1.frozen? ⟨w.heap.size, 6, none⟩ = false → W1.frozen? ⟨w.heap.size, 7, none⟩ = false → Code.wp P c Q a W1) : Code.wp P c Q a W :=
 k W h ((blk_cell h.bx 0).trans rfl) ((blk_cell h.bx 1).trans rfl) ((blk_cell h.bx 2).trans rfl) ((blk_cell h.bx 3).trans rfl) ((blk_cell h.bx 4).trans rfl) ((blk_cell h.bx 5).trans rfl) ((blk_cell h.bx 6).trans rfl) ((blk_cell h.st.1 2).trans rfl) ((blk_cell h.bo 0).trans rfl) ((blk_cell h.bo 1).trans rfl) ((blk_cell h.bo 2).trans rfl) ((blk_cell h.bo 3).trans rfl) ((blk_cell h.bo 4).trans rfl) ((blk_cell h.bo 5).trans rfl) ((blk_cell h.bo 6).trans rfl) ((blk_cell h.bo 7).trans rfl) (blk_frozen h.bo 0) (blk_frozen h.bo 1) (blk_frozen h.bo 2) (blk_frozen h.bo 3) (blk_frozen h.bo 4) (blk_frozen h.bo 5) (blk_frozen h.bo 6) (blk_frozen h.bo 7)
theorem spec_RouteRead.fin {W : World} {g : Nat} {o0 o1 o2 o3 o4 o5 o6 o7 : Value} (h : W.heap[g]? = some (.cells #[o0, o1, o2, o3, o4, o5, o6, o7] 29 (0, 0))) (v0 v1 v2 v3 v4 v5 v6 v7 : Value) : (((((((((W.setCell ⟨g, 0, none⟩ v0).setCell ⟨g, 1, none⟩ v1).setCell ⟨g, 2, none⟩ v2).setCell ⟨g, 3, none⟩ v3).setCell ⟨g, 4, none⟩ v4).setCell ⟨g, 5, none⟩ v5).setCell ⟨g, 6, none⟩ v6).setCell ⟨g, 7, none⟩ v7).heap[g]?) = some (.cells #[v0, v1, v2, v3, v4, v5, v6, v7] 29 (0, 0)) := by
 have h1 := blk_set h 0 v0
 have h2 := blk_set h1 1 v1
 have h3 := blk_set h2 2 v2
 have h4 := blk_set h3 3 v3
 have h5 := blk_set h4 4 v4
 have h6 := blk_set h5 5 v5
 have h7 := blk_set h6 6 v6
 have h8 := blk_set h7 7 v7
 simpa using h8
set_option maxHeartbeats 800000 in
set_option maxRecDepth 100000 in
theorem spec_RouteRead.calls (k : Nat) (a0 : ByteArray) (r1 : Int) (r2 : Int) (r3 : Int) (r4 : Int) (r5 : Int) (r6 : Int) (r7 : Bool) (r8 : Int) (w : World) (h : spec_RouteRead.f k a0 = some (r1, r2, r3, r4, r5, r6, r7, r8)) :
  Calls Try.prog 15 #[.string a0] w fun e w' => e = .returned (.agg #[.int .i64 r1, .int .i64 r2, .int .i64 r3, .int .i64 r4, .int .i64 r5, .int .i64 r6, .bool r7, .int .i64 r8]) ∧ Below w.heap.size w w' := by
 have hu24 := Try.underlying24
 have hu29 := Try.underlying29
 have hu96 := Try.underlying96
 unfold spec_RouteRead.f at h
 by_cases hsz : a0.size ≤ 8000
 ·rw [if_pos hsz] at h
  replace h := Option.bind_eq_some_iff.mp h
  obtain ⟨⟨x1, t1, i1, d1⟩, q1, h⟩ := h
  have Q1 := Aside0.mk q1
  clear q1
  replace h := Option.bind_eq_some_iff.mp h
  obtain ⟨⟨x2, t2, i2, d2⟩, q2, h⟩ := h
  have Q2 := Aside0.mk q2
  clear q2
  replace h := Option.bind_eq_some_iff.mp h
  obtain ⟨⟨x3, t3, i3, d3⟩, q3, h⟩ := h
  have Q3 := Aside0.mk q3
  clear q3
  replace h := Option.bind_eq_some_iff.mp h
  obtain ⟨⟨x4, t4, i4, d4⟩, q4, h⟩ := h
  have Q4 := Aside0.mk q4
  clear q4
  replace h := Option.bind_eq_some_iff.mp h
  obtain ⟨⟨x5, t5, i5, d5⟩, q5, h⟩ := h
  have Q5 := Aside0.mk q5
  clear q5
  replace h := Option.bind_eq_some_iff.mp h
  obtain ⟨⟨x6, t6, i6, d6⟩, q6, h⟩ := h
  have Q6 := Aside0.mk q6
  clear q6
  replace h := Option.bind_eq_some_iff.mp h
  obtain ⟨⟨x7, t7, i7, d7⟩, q7, h⟩ := h
  have Q7 := Aside0.mk q7
  clear q7
  have H := Aside0.mk h
  clear h
  have I0 := spec_RouteRead.start w a0
  have hs1 : decide (8000 < a0.size) = false := decide_eq_false (by omega)
  have hs2 : decide ((8000 : Int) < (a0.size : Int)) = false := decide_eq_false (by omega)
  clear hsz
  go_enter Try.func15, Try.ntmps15
  go_wp2_with fail
  go_at_call 72
  with_reducible refine (spec_l03Reader_num.calls k _ a0 0 false x1 t1 i1 d1 w _ I0 (spec_RouteRead.start_bl w a0) Q1.out).mono ?_
  rintro e w1 ⟨rfl, hI, hB, hK⟩
  have hO : w1.heap[w.heap.size]? = some (.cells #[.int .i64 0, .int .i64 0, .int .i64 0, .int .i64 0, .int .i64 0, .int .i64 0, .bool false, .int .i64 0] 29 (0, 0)) := hK.blk (blk_alloc (heap_alloc_new w _) _) (by simp) (by simp)
  have hlt := hB.size
  have S1 := Aside0.mk (⟨IsS96.alloc hI _, blk_new w1 _, blk_alloc hO _, below_alloc hB _⟩ : spec_RouteRead.ST w (w1.alloc (.cells #[.int .i64 x1, .int .i64 0, .int .i64 0, .int .i64 0, .int .i64 0, .int .i64 0, .bool false] 24)) (w.heap.size + 1) w1.heap.size t1 i1 d1 _)
  clear hI hB hK hO
  go_wp2_with fail
  go_at_call 72
  with_reducible refine (spec_l03Reader_num.calls k _ t1 i1 d1 x2 t2 i2 d2 w _ S1.out.st S1.out.bl Q2.out).mono ?_
  rintro e w2 ⟨rfl, hI, hB, hK⟩
  have S2 := Aside0.mk (S1.out.call hI hB hK)
  clear S1 hI hB hK
  have hc := (blk_cell S2.out.bx 1).trans rfl
  have hf := blk_frozen S2.out.bx 1
  go_wp2_with fail
  clear hc hf
  have T2 := Aside0.mk (S2.out.set hlt 1 (.int .i64 x2))
  clear S2
  go_at_call 72
  with_reducible refine (spec_l03Reader_num.calls k _ t2 i2 d2 x3 t3 i3 d3 w _ T2.out.st T2.out.bl Q3.out).mono ?_
  rintro e w3 ⟨rfl, hI, hB, hK⟩
  have S3 := Aside0.mk (T2.out.call hI hB hK)
  clear T2 hI hB hK
  have hc := (blk_cell S3.out.bx 2).trans rfl
  have hf := blk_frozen S3.out.bx 2
  go_wp2_with fail
  clear hc hf
  have T3 := Aside0.mk (S3.out.set hlt 2 (.int .i64 x3))
  clear S3
  go_at_call 72
  with_reducible refine (spec_l03Reader_num.calls k _ t3 i3 d3 x4 t4 i4 d4 w _ T3.out.st T3.out.bl Q4.out).mono ?_
  rintro e w4 ⟨rfl, hI, hB, hK⟩
  have S4 := Aside0.mk (T3.out.call hI hB hK)
  clear T3 hI hB hK
  have hc := (blk_cell S4.out.bx 3).trans rfl
  have hf := blk_frozen S4.out.bx 3
  go_wp2_with fail
  clear hc hf
  have T4 := Aside0.mk (S4.out.set hlt 3 (.int .i64 x4))
  clear S4
  go_at_call 72
  with_reducible refine (spec_l03Reader_num.calls k _ t4 i4 d4 x5 t5 i5 d5 w _ T4.out.st T4.out.bl Q5.out).mono ?_
  rintro e w5 ⟨rfl, hI, hB, hK⟩
  have S5 := Aside0.mk (T4.out.call hI hB hK)
  clear T4 hI hB hK
  have hc := (blk_cell S5.out.bx 4).trans rfl
  have hf := blk_frozen S5.out.bx 4
  go_wp2_with fail
  clear hc hf
  have T5 := Aside0.mk (S5.out.set hlt 4 (.int .i64 x5))
  clear S5
  go_at_call 72
  with_reducible refine (spec_l03Reader_num.calls k _ t5 i5 d5 x6 t6 i6 d6 w _ T5.out.st T5.out.bl Q6.out).mono ?_
  rintro e w6 ⟨rfl, hI, hB, hK⟩
  have S6 := Aside0.mk (T5.out.call hI hB hK)
  clear T5 hI hB hK
  have hc := (blk_cell S6.out.bx 5).trans rfl
  have hf := blk_frozen S6.out.bx 5
  go_wp2_with fail
  clear hc hf
  have T6 := Aside0.mk (S6.out.set hlt 5 (.int .i64 x6))
  clear S6
  go_at_call 72
  with_reducible refine (spec_l03Reader_num.calls k _ t6 i6 d6 x7 t7 i7 d7 w _ T6.out.st T6.out.bl Q7.out).mono ?_
  rintro e w7 ⟨rfl, hI, hB, hK⟩
  have S7 := Aside0.mk (T6.out.call hI hB hK)
  clear T6 hI hB hK
  have hc := (blk_cell S7.out.bx 6).trans rfl
  have hf := blk_frozen S7.out.bx 6
  have T7 := Aside0.mk (S7.out.set hlt 6 (.bool (x7 == 1)))
  clear Q1 Q2 Q3 Q4 Q5 Q6 Q7
  go_upto_region 11 with (fail)
  refine spec_RouteRead.gen T7.out ?_
  clear T7 S7 hc hf
  intro W TW_ c0 c1 c2 c3 c4 c5 c6 b2 o0 o1 o2 o3 o4 o5 o6 o7 f0 f1 f2 f3 f4 f5 f6 f7
  have TW := Aside0.mk TW_
  clear TW_
  cases d7 with
  | true =>
   have h := H.out
   rw [if_pos rfl] at h
   simp only [Option.some.injEq, Prod.mk.injEq] at h
   obtain ⟨rfl, rfl, rfl, rfl, rfl, rfl, rfl, rfl⟩ := h
   clear H
   go_wp2_with fail
   refine bodyPost_ret (results_cell_row rfl _ _ w.heap.size 29 _ (0, 0) _ rfl (spec_RouteRead.fin TW.out.bo _ _ _ _ _ _ _ _) Try.underlying29 rfl (by kernel_rfl)) rfl ⟨rfl, (below_set (below_set (below_set (below_set (below_set (below_set (below_set (below_set TW.out.bl (Nat.le_refl _)) (Nat.le_refl _)) (Nat.le_refl _)) (Nat.le_refl _)) (Nat.le_refl _)) (Nat.le_refl _)) (Nat.le_refl _)) (Nat.le_refl _))⟩
  | false =>
   have h := H.out
   rw [if_neg (by decide)] at h
   replace h := Option.bind_eq_some_iff.mp h
   obtain ⟨b, qb, h⟩ := h
   have QB := Aside0.mk qb
   have H8 := Aside0.mk h
   clear qb h H
   go_wp2_with fail
   go_at_call 14
   with_reducible refine (spec_RouteBytes.calls k x1 x2 x3 x4 x5 x6 (x7 == 1) b _ QB.out).mono ?_
   rintro e wb ⟨rfl, hb⟩
   have TB := Aside0.mk (TW.out.far hb)
   clear c0 c1 c2 c3 c4 c5 c6 b2 o0 o1 o2 o3 o4 o5 o6 o7 f0 f1 f2 f3 f4 f5 f6 f7 hb TW
   obtain ⟨c0, c1, c2, c3, c4, c5, c6, b2, o0, o1, o2, o3, o4, o5, o6, o7, f0, f1, f2, f3, f4, f5, f6, f7⟩ := TB.out.facts
   have TV := TB
   clear TB
   by_cases hb : b = a0
   ·have hb1 : (b.toList == a0.toList) = true := by rw [hb]; exact beq_self_eq_true _
    have HH := Aside0.mk hb
    clear hb
    go_wp2_with fail
    have h := H8.out
    rw [if_pos HH.out] at h
    simp only [Option.some.injEq, Prod.mk.injEq] at h
    obtain ⟨rfl, rfl, rfl, rfl, rfl, rfl, rfl, rfl⟩ := h
    refine bodyPost_ret (results_cell_row rfl _ _ w.heap.size 29 _ (0, 0) _ rfl (spec_RouteRead.fin TV.out.bo _ _ _ _ _ _ _ _) Try.underlying29 rfl (by kernel_rfl)) rfl ⟨rfl, (below_set (below_set (below_set (below_set (below_set (below_set (below_set (below_set TV.out.bl (Nat.le_refl _)) (Nat.le_refl _)) (Nat.le_refl _)) (Nat.le_refl _)) (Nat.le_refl _)) (Nat.le_refl _)) (Nat.le_refl _)) (Nat.le_refl _))⟩
   ·have hb1 : (b.toList == a0.toList) = false := spec_RouteRead.str_ne hb
    have HH := Aside0.mk hb
    clear hb
    go_wp2_with fail
    have h := H8.out
    rw [if_neg HH.out] at h
    simp only [Option.some.injEq, Prod.mk.injEq] at h
    obtain ⟨rfl, rfl, rfl, rfl, rfl, rfl, rfl, rfl⟩ := h
    refine bodyPost_ret (results_cell_row rfl _ _ w.heap.size 29 _ (0, 0) _ rfl (spec_RouteRead.fin TV.out.bo _ _ _ _ _ _ _ _) Try.underlying29 rfl (by kernel_rfl)) rfl ⟨rfl, (below_set (below_set (below_set (below_set (below_set (below_set (below_set (below_set TV.out.bl (Nat.le_refl _)) (Nat.le_refl _)) (Nat.le_refl _)) (Nat.le_refl _)) (Nat.le_refl _)) (Nat.le_refl _)) (Nat.le_refl _)) (Nat.le_refl _))⟩
 ·rw [if_neg hsz] at h
  simp only [Option.some.injEq, Prod.mk.injEq] at h
  obtain ⟨rfl, rfl, rfl, rfl, rfl, rfl, rfl, rfl⟩ := h
  have hs1 : decide (8000 < a0.size) = true := decide_eq_true (by omega)
  have hs2 : decide ((8000 : Int) < (a0.size : Int)) = true := decide_eq_true (by omega)
  clear hsz
  go_enter Try.func15, Try.ntmps15
  go_wp2_with fail
  refine bodyPost_ret (results_cell_row rfl _ _ w.heap.size 29 _ (0, 0) _ rfl (heap_alloc_new w _) Try.underlying29 rfl (by kernel_rfl)) rfl ⟨rfl, ?_⟩
  exact below_alloc (Below.refl _ _) _
def spec_NoteRead.tail (k : Nat) (a0 : ByteArray) (x1 z1 z2 z3 z4 z5 z6 : Int) (z7 : Bool) : Option (Int × Int × Int × Int × Int × Int × Int × Bool × Int) :=
 (spec_NoteBytes.f k x1 z1 z2 z3 z4 z5 z6 z7).bind fun b => if b = a0 then some (x1, z1, z2, z3, z4, z5, z6, z7, 0) else some (0, 0, 0, 0, 0, 0, 0, false, 3)
def spec_NoteRead.f (k : Nat) (a0 : ByteArray) : Option (Int × Int × Int × Int × Int × Int × Int × Bool × Int) :=
 if a0.size ≤ 8000 then
  (spec_GetNum.f k a0 0).bind fun x =>
  if x.2.2 = 0 then
   (if x.1 = 3 then spec_NoteRead.tail k a0 x.1 0 0 0 0 0 0 false else
       if 0 ≤ x.2.1 then
       if x.2.1 ≤ (a0.size : Int) then
       (spec_RouteRead.f k (a0.extract x.2.1.toNat a0.size)).bind fun y => spec_NoteRead.tail k a0 x.1 y.1 y.2.1 y.2.2.1 y.2.2.2.1 y.2.2.2.2.1 y.2.2.2.2.2.1 y.2.2.2.2.2.2.1
       else none else none)
  else some (0, 0, 0, 0, 0, 0, 0, false, 3)
 else some (0, 0, 0, 0, 0, 0, 0, false, 2)
theorem spec_NoteRead.tail_mono : ∀ a0 x1 z1 z2 z3 z4 z5 z6 z7 k, LeO (spec_NoteRead.tail k a0 x1 z1 z2 z3 z4 z5 z6 z7) (spec_NoteRead.tail (k + 1) a0 x1 z1 z2 z3 z4 z5 z6 z7) := by
 intro a0 x1 z1 z2 z3 z4 z5 z6 z7 k
 unfold spec_NoteRead.tail
 exact LeO.bind (spec_NoteBytes.mono _ _ _ _ _ _ _ _ _) (fun _ => LeO.refl _)
theorem spec_NoteRead.gen {P : Program} {c : Code} {Q : Exit → Act → World → Prop} {a : Act} {W : World} (p : World → Prop) (h : p W) (k : ∀ W1, p W1 → Code.wp P c Q a W1) : Code.wp P c Q a W := k W h
theorem spec_NoteRead.str_ne {a b : ByteArray} (h : a ≠ b) : (a.toList == b.toList) = false := by
 rw [beq_eq_false_iff_ne, ByteArray.toList_eq, ByteArray.toList_eq]
 intro e
 exact h (ByteArray.ext (Array.toList_inj.1 e))
theorem spec_NoteRead.fin {W : World} {g : Nat} {o0 o1 o2 o3 o4 o5 o6 o7 o8 : Value} (h : W.heap[g]? = some (.cells #[o0, o1, o2, o3, o4, o5, o6, o7, o8] 46 (0, 0))) (v0 v1 v2 v3 v4 v5 v6 v7 v8 : Value) : (((((((((W.setCell ⟨g, 0, none⟩ v0).setCell ⟨g, 1, none⟩ v1).setCell ⟨g, 2, none⟩ v2).setCell ⟨g, 3, none⟩ v3).setCell ⟨g, 4, none⟩ v4).setCell ⟨g, 5, none⟩ v5).setCell ⟨g, 6, none⟩ v6).setCell ⟨g, 7, none⟩ v7).setCell ⟨g, 8, none⟩ v8).heap[g]? = some (.cells #[v0, v1, v2, v3, v4, v5, v6, v7, v8] 46 (0, 0)) := by
 have h1 := blk_set h 0 v0
 have h2 := blk_set h1 1 v1
 have h3 := blk_set h2 2 v2
 have h4 := blk_set h3 3 v3
 have h5 := blk_set h4 4 v4
 have h6 := blk_set h5 5 v5
 have h7 := blk_set h6 6 v6
 have h8 := blk_set h7 7 v7
 have h9 := blk_set h8 8 v8
 simpa using h9
theorem spec_NoteRead.set9 {w W : World} (h : Below w.heap.size w W) (v0 v1 v2 v3 v4 v5 v6 v7 v8 : Value) : Below w.heap.size w (((((((((W.setCell ⟨w.heap.size, 0, none⟩ v0).setCell ⟨w.heap.size, 1, none⟩ v1).setCell ⟨w.heap.size, 2, none⟩ v2).setCell ⟨w.heap.size, 3, none⟩ v3).setCell ⟨w.heap.size, 4, none⟩ v4).setCell ⟨w.heap.size, 5, none⟩ v5).setCell ⟨w.heap.size, 6, none⟩ v6).setCell ⟨w.heap.size, 7, none⟩ v7).setCell ⟨w.heap.size, 8, none⟩ v8) := (below_set (below_set (below_set (below_set (below_set (below_set (below_set (below_set (below_set h (Nat.le_refl _)) (Nat.le_refl _)) (Nat.le_refl _)) (Nat.le_refl _)) (Nat.le_refl _)) (Nat.le_refl _)) (Nat.le_refl _)) (Nat.le_refl _)) (Nat.le_refl _))
theorem spec_NoteRead.put7 {W : World} {g : Nat} {x o0 o1 o2 o3 o4 o5 o6 : Value} (h : W.heap[g]? = some (.cells #[x, o0, o1, o2, o3, o4, o5, o6] 42 (0, 0))) (v0 v1 v2 v3 v4 v5 v6 : Value) : (((((((W.setCell ⟨g, 1, none⟩ v0).setCell ⟨g, 2, none⟩ v1).setCell ⟨g, 3, none⟩ v2).setCell ⟨g, 4, none⟩ v3).setCell ⟨g, 5, none⟩ v4).setCell ⟨g, 6, none⟩ v5).setCell ⟨g, 7, none⟩ v6).heap[g]? = some (.cells #[x, v0, v1, v2, v3, v4, v5, v6] 42 (0, 0)) := by
 have h1 := blk_set h 1 v0
 have h2 := blk_set h1 2 v1
 have h3 := blk_set h2 3 v2
 have h4 := blk_set h3 4 v3
 have h5 := blk_set h4 5 v4
 have h6 := blk_set h5 6 v5
 have h7 := blk_set h6 7 v6
 simpa using h7
theorem spec_NoteRead.bl7 {w W : World} {g : Nat} (hg : w.heap.size ≤ g) (h : Below w.heap.size w W) (v0 v1 v2 v3 v4 v5 v6 : Value) : Below w.heap.size w (((((((W.setCell ⟨g, 1, none⟩ v0).setCell ⟨g, 2, none⟩ v1).setCell ⟨g, 3, none⟩ v2).setCell ⟨g, 4, none⟩ v3).setCell ⟨g, 5, none⟩ v4).setCell ⟨g, 6, none⟩ v5).setCell ⟨g, 7, none⟩ v6) := (below_set (below_set (below_set (below_set (below_set (below_set (below_set h hg) hg) hg) hg) hg) hg) hg)
theorem spec_NoteRead.far7 {W : World} {g g' : Nat} {t : TypeId} {cs : Array Value} (hn : g' ≠ g) (h : W.heap[g']? = some (.cells cs t (0, 0))) (v0 v1 v2 v3 v4 v5 v6 : Value) : (((((((W.setCell ⟨g, 1, none⟩ v0).setCell ⟨g, 2, none⟩ v1).setCell ⟨g, 3, none⟩ v2).setCell ⟨g, 4, none⟩ v3).setCell ⟨g, 5, none⟩ v4).setCell ⟨g, 6, none⟩ v5).setCell ⟨g, 7, none⟩ v6).heap[g']? = some (.cells cs t (0, 0)) := (blk_far (blk_far (blk_far (blk_far (blk_far (blk_far (blk_far h hn _) hn _) hn _) hn _) hn _) hn _) hn _)
theorem spec_NoteRead.facts {W : World} {g : Nat} (h : W.heap[g]? = some (.cells #[.int .i64 0, .int .i64 0, .int .i64 0, .int .i64 0, .int .i64 0, .int .i64 0, .int .i64 0, .bool false, .int .i64 0] 46 (0, 0))) :
  W.cell? ⟨g, 0, none⟩ = some (.int .i64 0) ∧ W.cell? ⟨g, 1, none⟩ = some (.int .i64 0) ∧ W.cell? ⟨g, 2, none⟩ = some (.int .i64 0) ∧ W.cell? ⟨g, 3, none⟩ = some (.int .i64 0) ∧ W.cell? ⟨g, 4, none⟩ = some (.int .i64 0) ∧ W.cell? ⟨g, 5, none⟩ = some (.int .i64 0) ∧ W.cell? ⟨g, 6, none⟩ = some (.int .i64 0) ∧ W.cell? ⟨g, 7, none⟩ = some (.bool false) ∧ W.cell? ⟨g, 8, none⟩ = some (.int .i64 0) ∧ W.frozen? ⟨g, 0, none⟩ = false ∧ W.frozen? ⟨g, 1, none⟩ = false ∧ W.frozen? ⟨g, 2, none⟩ = false ∧ W.frozen? ⟨g, 3, none⟩ = false ∧ W.frozen? ⟨g, 4, none⟩ = false ∧ W.frozen? ⟨g, 5, none⟩ = false ∧ W.frozen? ⟨g, 6, none⟩ = false ∧ W.frozen? ⟨g, 7, none⟩ = false ∧ W.frozen? ⟨g, 8, none⟩ = false :=
 ⟨(blk_cell h 0).trans rfl, (blk_cell h 1).trans rfl, (blk_cell h 2).trans rfl, (blk_cell h 3).trans rfl, (blk_cell h 4).trans rfl, (blk_cell h 5).trans rfl, (blk_cell h 6).trans rfl, (blk_cell h 7).trans rfl, (blk_cell h 8).trans rfl, blk_frozen h 0, blk_frozen h 1, blk_frozen h 2, blk_frozen h 3, blk_frozen h 4, blk_frozen h 5, blk_frozen h 6, blk_frozen h 7, blk_frozen h 8⟩
set_option maxHeartbeats 1600000 in
set_option maxRecDepth 100000 in
theorem spec_NoteRead.calls (k : Nat) (a0 : ByteArray) (r1 : Int) (r2 : Int) (r3 : Int) (r4 : Int) (r5 : Int) (r6 : Int) (r7 : Int) (r8 : Bool) (r9 : Int) (w : World) (h : spec_NoteRead.f k a0 = some (r1, r2, r3, r4, r5, r6, r7, r8, r9)) :
  Calls Try.prog 29 #[.string a0] w fun e w' => e = .returned (.agg #[.int .i64 r1, .int .i64 r2, .int .i64 r3, .int .i64 r4, .int .i64 r5, .int .i64 r6, .int .i64 r7, .bool r8, .int .i64 r9]) ∧ Below w.heap.size w w' := by
 have hu42 := Try.underlying42
 have hu46 := Try.underlying46
 have hu101 := Try.underlying101
 have hu24 := Try.underlying24
 have hu29 := Try.underlying29
 unfold spec_NoteRead.f at h
 by_cases hsz : a0.size ≤ 8000
 ·rw [if_pos hsz] at h
  have hs1 : decide (8000 < a0.size) = false := decide_eq_false (by omega)
  have hs2 : decide ((8000 : Int) < (a0.size : Int)) = false := decide_eq_false (by omega)
  clear hsz
  replace h := Option.bind_eq_some_iff.mp h
  obtain ⟨⟨x1, x2, x3⟩, q1, h⟩ := h
  have Q1 := Aside0.mk q1
  have H := Aside0.mk h
  clear q1 h
  go_enter Try.func29, Try.ntmps29
  go_wp2_with fail
  go_at_call 87
  with_reducible refine (spec_GetNum.calls k a0 0 x1 x2 x3 _ Q1.out).mono ?_
  rintro e w1 ⟨rfl, hb⟩
  have bO1 := Aside0.mk (blk_below (heap_alloc_new w _) hb)
  have bl1 := Aside0.mk (below_step (below_alloc (Below.refl _ _) _) hb)
  clear hb
  go_upto_region 5 with (fail)
  refine spec_NoteRead.gen (fun W => W.heap[w1.heap.size]? = some (.cells #[.int .i64 x1, .int .i64 x2, .int .i64 x3] 101 (0, 0)) ∧ W.heap[w1.heap.size + 1]? = some (.cells #[.int .i64 x1, .int .i64 0, .int .i64 0, .int .i64 0, .int .i64 0, .int .i64 0, .int .i64 0, .bool false] 42 (0, 0)) ∧ W.heap[w.heap.size]? = some (.cells #[.int .i64 0, .int .i64 0, .int .i64 0, .int .i64 0, .int .i64 0, .int .i64 0, .int .i64 0, .bool false, .int .i64 0] 46 (0, 0)) ∧ Below w.heap.size w W) ⟨blk_alloc (blk_new w1 _) _, by simpa using heap_alloc_new (w1.alloc _) _, blk_alloc (blk_alloc bO1.out _) _, below_alloc (below_alloc bl1.out _) _⟩ ?_
  rintro W ⟨bn, bx, bo, bl⟩
  have n0 := (blk_cell bn 0).trans rfl
  have n1 := (blk_cell bn 1).trans rfl
  have n2 := (blk_cell bn 2).trans rfl
  have c0 := (blk_cell bx 0).trans rfl
  have c1 := (blk_cell bx 1).trans rfl
  have c2 := (blk_cell bx 2).trans rfl
  have c3 := (blk_cell bx 3).trans rfl
  have c4 := (blk_cell bx 4).trans rfl
  have c5 := (blk_cell bx 5).trans rfl
  have c6 := (blk_cell bx 6).trans rfl
  have c7 := (blk_cell bx 7).trans rfl
  obtain ⟨o0, o1, o2, o3, o4, o5, o6, o7, o8, f0, f1, f2, f3, f4, f5, f6, f7, f8⟩ := spec_NoteRead.facts bo
  have BN := Aside0.mk bn
  have BX := Aside0.mk bx
  have BO := Aside0.mk bo
  have BL := Aside0.mk bl
  clear bn bx bo bl
  have hge := Aside0.mk (bl1.out.size)
  have hne := Aside0.mk (Nat.ne_of_lt (show w.heap.size < w1.heap.size from blk_lt bO1.out))
  clear bO1 bl1
  by_cases h0 : x3 = 0
  ·have hh := H.out
   rw [if_pos h0] at hh
   have h0b : (x3 == 0) = true := beq_iff_eq.mpr h0
   have h0c : (x3 != 0) = false := bne_eq_false_iff_eq.mpr h0
   clear h0 H
   by_cases h3 : x1 = 3
   ·rw [if_pos h3] at hh
    have h3b : (x1 != 3) = false := bne_eq_false_iff_eq.mpr h3
    clear h3
    unfold spec_NoteRead.tail at hh
    replace hh := Option.bind_eq_some_iff.mp hh
    obtain ⟨b, qb, hh⟩ := hh
    have QB := Aside0.mk qb
    have H8 := Aside0.mk hh
    clear qb hh
    go_wp2_with fail
    go_at_call 28
    with_reducible refine (spec_NoteBytes.calls k x1 0 0 0 0 0 0 false b _ QB.out).mono ?_
    rintro e wb ⟨rfl, hb⟩
    have BX1 := Aside0.mk (blk_below BX.out hb)
    have BO1 := Aside0.mk (blk_below BO.out hb)
    have BL1 := Aside0.mk (below_step BL.out hb)
    clear BX BO BL hb
    clear c0 c1 c2 c3 c4 c5 c6 c7 o0 o1 o2 o3 o4 o5 o6 o7 o8 f0 f1 f2 f3 f4 f5 f6 f7 f8
    clear n0 n1 n2
    have c0 := (blk_cell BX1.out 0).trans rfl
    have c1 := (blk_cell BX1.out 1).trans rfl
    have c2 := (blk_cell BX1.out 2).trans rfl
    have c3 := (blk_cell BX1.out 3).trans rfl
    have c4 := (blk_cell BX1.out 4).trans rfl
    have c5 := (blk_cell BX1.out 5).trans rfl
    have c6 := (blk_cell BX1.out 6).trans rfl
    have c7 := (blk_cell BX1.out 7).trans rfl
    obtain ⟨o0, o1, o2, o3, o4, o5, o6, o7, o8, f0, f1, f2, f3, f4, f5, f6, f7, f8⟩ := spec_NoteRead.facts BO1.out
    by_cases hb : b = a0
    ·have hb1 : (b.toList == a0.toList) = true := by rw [hb]; exact beq_self_eq_true _
     have hh := H8.out
     rw [if_pos hb] at hh
     simp only [Option.some.injEq, Prod.mk.injEq] at hh
     obtain ⟨rfl, rfl, rfl, rfl, rfl, rfl, rfl, rfl, rfl⟩ := hh
     clear hb H8
     go_wp2_with fail
     refine bodyPost_ret (results_cell_row rfl _ _ w.heap.size 46 _ (0, 0) _ rfl (spec_NoteRead.fin BO1.out _ _ _ _ _ _ _ _ _) Try.underlying46 rfl (by kernel_rfl)) rfl ⟨rfl, spec_NoteRead.set9 BL1.out _ _ _ _ _ _ _ _ _⟩
    ·have hb1 : (b.toList == a0.toList) = false := spec_NoteRead.str_ne hb
     have hh := H8.out
     rw [if_neg hb] at hh
     simp only [Option.some.injEq, Prod.mk.injEq] at hh
     obtain ⟨rfl, rfl, rfl, rfl, rfl, rfl, rfl, rfl, rfl⟩ := hh
     clear hb H8
     go_wp2_with fail
     refine bodyPost_ret (results_cell_row rfl _ _ w.heap.size 46 _ (0, 0) _ rfl (spec_NoteRead.fin BO1.out _ _ _ _ _ _ _ _ _) Try.underlying46 rfl (by kernel_rfl)) rfl ⟨rfl, spec_NoteRead.set9 BL1.out _ _ _ _ _ _ _ _ _⟩
   ·rw [if_neg h3] at hh
    have h3b : (x1 != 3) = true := bne_iff_ne.mpr h3
    clear h3
    by_cases hx0 : 0 ≤ x2
    ·rw [if_pos hx0] at hh
     by_cases hx1 : x2 ≤ (a0.size : Int)
     ·rw [if_pos hx1] at hh
      replace hh := Option.bind_eq_some_iff.mp hh
      obtain ⟨⟨z1, z2, z3, z4, z5, z6, z7, z8⟩, q2, hh⟩ := hh
      have Q2 := Aside0.mk q2
      have H := Aside0.mk hh
      clear q2 hh
      go_wp2_with fail
      go_at_call 15
      with_reducible refine (spec_RouteRead.calls k _ z1 z2 z3 z4 z5 z6 z7 z8 _ Q2.out).mono ?_
      rintro e w2 ⟨rfl, hb⟩
      have bX2 := Aside0.mk (blk_below BX.out hb)
      have bN2 := Aside0.mk (blk_below BN.out hb)
      have bO2 := Aside0.mk (blk_below BO.out hb)
      have bl2 := Aside0.mk (below_step BL.out hb)
      clear BX BN BO BL hb c0 c1 c2 c3 c4 c5 c6 c7 o0 o1 o2 o3 o4 o5 o6 o7 o8 f0 f1 f2 f3 f4 f5 f6 f7 f8 n0 n1 n2
      have n2 := (blk_cell bN2.out 2).trans rfl
      have c1 := (blk_cell bX2.out 1).trans rfl
      have fx1 := blk_frozen bX2.out 1
      have c2 := (blk_cell bX2.out 2).trans rfl
      have fx2 := blk_frozen bX2.out 2
      have c3 := (blk_cell bX2.out 3).trans rfl
      have fx3 := blk_frozen bX2.out 3
      have c4 := (blk_cell bX2.out 4).trans rfl
      have fx4 := blk_frozen bX2.out 4
      have c5 := (blk_cell bX2.out 5).trans rfl
      have fx5 := blk_frozen bX2.out 5
      have c6 := (blk_cell bX2.out 6).trans rfl
      have fx6 := blk_frozen bX2.out 6
      have c7 := (blk_cell bX2.out 7).trans rfl
      have fx7 := blk_frozen bX2.out 7
      go_wp2_with fail
      (try (unfold Instr.field; go_simp; unfold asAgg; go_simp))
      go_upto_region 7 with (fail)
      refine spec_NoteRead.gen (fun W => W.heap[w1.heap.size]? = some (.cells #[.int .i64 x1, .int .i64 x2, .int .i64 x3] 101 (0, 0)) ∧ W.heap[w1.heap.size + 1]? = some (.cells #[.int .i64 x1, .int .i64 z1, .int .i64 z2, .int .i64 z3, .int .i64 z4, .int .i64 z5, .int .i64 z6, .bool z7] 42 (0, 0)) ∧ W.heap[w.heap.size]? = some (.cells #[.int .i64 0, .int .i64 0, .int .i64 0, .int .i64 0, .int .i64 0, .int .i64 0, .int .i64 0, .bool false, .int .i64 0] 46 (0, 0)) ∧ Below w.heap.size w W) ⟨spec_NoteRead.far7 (by omega) bN2.out _ _ _ _ _ _ _, spec_NoteRead.put7 bX2.out _ _ _ _ _ _ _, spec_NoteRead.far7 (Nat.ne_of_lt (Nat.lt_of_le_of_lt hge.out (Nat.lt_succ_self _))) bO2.out _ _ _ _ _ _ _, spec_NoteRead.bl7 (Nat.le_trans hge.out (Nat.le_succ _)) bl2.out _ _ _ _ _ _ _⟩ ?_
      clear c1 c2 c3 c4 c5 c6 c7 fx1 fx2 fx3 fx4 fx5 fx6 fx7 n2
      rintro W ⟨bn, bx, bo, bl⟩
      have n0 := (blk_cell bn 0).trans rfl
      have n1 := (blk_cell bn 1).trans rfl
      have n2 := (blk_cell bn 2).trans rfl
      have c0 := (blk_cell bx 0).trans rfl
      have c1 := (blk_cell bx 1).trans rfl
      have c2 := (blk_cell bx 2).trans rfl
      have c3 := (blk_cell bx 3).trans rfl
      have c4 := (blk_cell bx 4).trans rfl
      have c5 := (blk_cell bx 5).trans rfl
      have c6 := (blk_cell bx 6).trans rfl
      have c7 := (blk_cell bx 7).trans rfl
      obtain ⟨o0, o1, o2, o3, o4, o5, o6, o7, o8, f0, f1, f2, f3, f4, f5, f6, f7, f8⟩ := spec_NoteRead.facts bo
      have BN := Aside0.mk bn
      have BX := Aside0.mk bx
      have BO := Aside0.mk bo
      have BL := Aside0.mk bl
      clear bn bx bo bl
      have hh := H.out
      clear H bX2 bN2 bO2 bl2
      unfold spec_NoteRead.tail at hh
      replace hh := Option.bind_eq_some_iff.mp hh
      obtain ⟨b, qb, hh⟩ := hh
      have QB := Aside0.mk qb
      have H8 := Aside0.mk hh
      clear qb hh
      go_wp2_with fail
      go_at_call 28
      with_reducible refine (spec_NoteBytes.calls k x1 z1 z2 z3 z4 z5 z6 z7 b _ QB.out).mono ?_
      rintro e wb ⟨rfl, hb⟩
      have BX1 := Aside0.mk (blk_below BX.out hb)
      have BO1 := Aside0.mk (blk_below BO.out hb)
      have BL1 := Aside0.mk (below_step BL.out hb)
      clear BX BO BL hb
      clear c0 c1 c2 c3 c4 c5 c6 c7 o0 o1 o2 o3 o4 o5 o6 o7 o8 f0 f1 f2 f3 f4 f5 f6 f7 f8
      clear n0 n1 n2
      have c0 := (blk_cell BX1.out 0).trans rfl
      have c1 := (blk_cell BX1.out 1).trans rfl
      have c2 := (blk_cell BX1.out 2).trans rfl
      have c3 := (blk_cell BX1.out 3).trans rfl
      have c4 := (blk_cell BX1.out 4).trans rfl
      have c5 := (blk_cell BX1.out 5).trans rfl
      have c6 := (blk_cell BX1.out 6).trans rfl
      have c7 := (blk_cell BX1.out 7).trans rfl
      obtain ⟨o0, o1, o2, o3, o4, o5, o6, o7, o8, f0, f1, f2, f3, f4, f5, f6, f7, f8⟩ := spec_NoteRead.facts BO1.out
      by_cases hb : b = a0
      ·have hb1 : (b.toList == a0.toList) = true := by rw [hb]; exact beq_self_eq_true _
       have hh := H8.out
       rw [if_pos hb] at hh
       simp only [Option.some.injEq, Prod.mk.injEq] at hh
       obtain ⟨rfl, rfl, rfl, rfl, rfl, rfl, rfl, rfl, rfl⟩ := hh
       clear hb H8
       go_wp2_with fail
       refine bodyPost_ret (results_cell_row rfl _ _ w.heap.size 46 _ (0, 0) _ rfl (spec_NoteRead.fin BO1.out _ _ _ _ _ _ _ _ _) Try.underlying46 rfl (by kernel_rfl)) rfl ⟨rfl, spec_NoteRead.set9 BL1.out _ _ _ _ _ _ _ _ _⟩
      ·have hb1 : (b.toList == a0.toList) = false := spec_NoteRead.str_ne hb
       have hh := H8.out
       rw [if_neg hb] at hh
       simp only [Option.some.injEq, Prod.mk.injEq] at hh
       obtain ⟨rfl, rfl, rfl, rfl, rfl, rfl, rfl, rfl, rfl⟩ := hh
       clear hb H8
       go_wp2_with fail
       refine bodyPost_ret (results_cell_row rfl _ _ w.heap.size 46 _ (0, 0) _ rfl (spec_NoteRead.fin BO1.out _ _ _ _ _ _ _ _ _) Try.underlying46 rfl (by kernel_rfl)) rfl ⟨rfl, spec_NoteRead.set9 BL1.out _ _ _ _ _ _ _ _ _⟩
     ·rw [if_neg hx1] at hh; cases hh
    ·rw [if_neg hx0] at hh; cases hh
  ·have hh := H.out
   rw [if_neg h0] at hh
   have h0b : (x3 == 0) = false := beq_eq_false_iff_ne.mpr h0
   have h0c : (x3 != 0) = true := bne_iff_ne.mpr h0
   clear h0 H
   simp only [Option.some.injEq, Prod.mk.injEq] at hh
   obtain ⟨rfl, rfl, rfl, rfl, rfl, rfl, rfl, rfl, rfl⟩ := hh
   go_wp2_with fail
   refine bodyPost_ret (results_cell_row rfl _ _ w.heap.size 46 _ (0, 0) _ rfl (spec_NoteRead.fin BO.out _ _ _ _ _ _ _ _ _) Try.underlying46 rfl (by kernel_rfl)) rfl ⟨rfl, spec_NoteRead.set9 BL.out _ _ _ _ _ _ _ _ _⟩
 ·rw [if_neg hsz] at h
  simp only [Option.some.injEq, Prod.mk.injEq] at h
  obtain ⟨rfl, rfl, rfl, rfl, rfl, rfl, rfl, rfl, rfl⟩ := h
  have hs1 : decide (8000 < a0.size) = true := decide_eq_true (by omega)
  have hs2 : decide ((8000 : Int) < (a0.size : Int)) = true := decide_eq_true (by omega)
  clear hsz
  go_enter Try.func29, Try.ntmps29
  go_wp2_with fail
  refine bodyPost_ret (results_cell_row rfl _ _ w.heap.size 46 _ (0, 0) _ rfl (heap_alloc_new w _) Try.underlying46 rfl (by kernel_rfl)) rfl ⟨rfl, ?_⟩
  exact below_alloc (Below.refl _ _) _
def laws_lwTexts.l0 : Nat → List ByteArray → List ByteArray → Int → Option (Bool)
 | 0, _, _, _ => none
 | k + 1, x0, x1, x5 => if x5 < (x0.length : Int) then (if 0 ≤ x5 then (if x5 < (x1.length : Int) then (if (rdOf ByteArray.empty x0 x5).toList = (rdOf ByteArray.empty x1 x5).toList then (laws_lwTexts.l0 k x0 x1 (wrap64 (x5 + 1))) else (some false)) else (none)) else (none)) else (some true)
def laws_lwTexts.f (k : Nat) (l0 : List ByteArray) (l1 : List ByteArray) : Option (Bool) := if (l0.length : Int) = (l1.length : Int) then (laws_lwTexts.l0 k l0 l1 0) else (some false)
set_option maxHeartbeats 8000000 in
set_option maxRecDepth 100000 in
theorem laws_lwTexts.calls (k : Nat) (A0 : Option Addr) (c0 : Nat) (l0 : List ByteArray) (A1 : Option Addr) (c1 : Nat) (l1 : List ByteArray) (r : Bool) (w : World) (hr0 : Kd.C Kd.string w A0 l0.length l0) (hc0 : l0.length ≤ c0) (hr1 : Kd.C Kd.string w A1 l1.length l1) (hc1 : l1.length ≤ c1) (h : laws_lwTexts.f k l0 l1 = some r) :
  Calls Try.prog 30 #[.slice A0 l0.length c0, .slice A1 l1.length c1] w fun e w' => e = .returned (.bool r) ∧ Drawn0 w w' := by
 have HR0 := Aside0.mk hr0
 have HC0 := Aside0.mk hc0
 clear hr0 hc0
 have HR1 := Aside0.mk hr1
 have HC1 := Aside0.mk hc1
 clear hr1 hc1
 have H : (if (l0.length : Int) = (l1.length : Int) then (laws_lwTexts.l0 k l0 l1 0) else (some false)) = some r := h
 clear h
 by_cases c3 : (l0.length : Int) = (l1.length : Int)
 ·rw [if_pos c3] at H
  have c3b0 : ((l0.length : Int) == (l1.length : Int)) = true := beq_iff_eq.mpr c3
  have c3b1 : ((l0.length : Int) != (l1.length : Int)) = false := bne_eq_false_iff_eq.mpr c3
  have c3b2 : (l0.length == l1.length) = true := by first | simpa using c3 | (simp at c3 ⊢; omega)
  clear c3
  have H' := Aside0.mk H
  clear H
  go_enter Try.func30, Try.ntmps30
  go_wp2
  repeat (go_quiet (fail); try go_wp2)
  go_loopg [5] k (fun kq v5 w' => ∃ (x5_1 : Int), v5 = .int .i64 x5_1 ∧ Aside0 (laws_lwTexts.l0 kq l0 l1 x5_1 = some r) ∧ Aside0 (kq ≤ k) ∧ Drawn0 w w')
  case atStart => exact ⟨(0), (by first | rfl | (simp; done) | (simp [*]; done)), H', ⟨Nat.le_refl _⟩, by repeat (first | exact Drawn0.refl _ | apply Drawn0.step)⟩
  case round =>
   clear H'
   try clear c1
   try clear p2
   try clear c3
   try clear c3b0
   try clear c3b1
   try clear c3b2
   obtain ⟨x5_1, rfl, HA, HK1, ⟨m1, rfl⟩⟩ := hrel
   cases gk with
   | zero => exact absurd HA.out (by simp [laws_lwTexts.l0])
   | succ k1 =>
    have H := HA.out
    clear HA
    simp only [laws_lwTexts.l0] at H
    by_cases c4 : x5_1 < (l0.length : Int)
    ·rw [if_pos c4] at H
     have c4b0 : decide (x5_1 < (l0.length : Int)) = true := decide_eq_true c4
     clear c4
     by_cases c5 : 0 ≤ x5_1
     ·rw [if_pos c5] at H
      have c5b0 : decide (0 ≤ x5_1) = true := decide_eq_true c5
      clear c5
      by_cases c6 : x5_1 < (l1.length : Int)
      ·rw [if_pos c6] at H
       have c6b0 : decide (x5_1 < (l1.length : Int)) = true := decide_eq_true c6
       clear c6
       by_cases c7 : (rdOf ByteArray.empty l0 x5_1).toList = (rdOf ByteArray.empty l1 x5_1).toList
       ·rw [if_pos c7] at H
        have c7b0 : ((rdOf ByteArray.empty l0 x5_1).toList == (rdOf ByteArray.empty l1 x5_1).toList) = true := beq_iff_eq.mpr c7
        have c7b1 : ((rdOf ByteArray.empty l0 x5_1).toList != (rdOf ByteArray.empty l1 x5_1).toList) = false := bne_eq_false_iff_eq.mpr c7
        clear c7
        have H' := Aside0.mk H
        clear H
        have p411 : 0 ≤ (x5_1 : Int) := of_decide_eq_true (by first | (with_reducible assumption) | assumption)
        have q411 : x5_1 < (l0.length : Int) := of_decide_eq_true (by first | (with_reducible assumption) | assumption)
        obtain ⟨ad411, e411, hx411_0⟩ := Kd.at_string HR0.out x5_1 p411 q411
        cases e411
        replace p411 := eq_true p411
        replace q411 := eq_true q411
        have p412 : 0 ≤ (x5_1 : Int) := of_decide_eq_true (by first | (with_reducible assumption) | assumption)
        have q412 : x5_1 < (l1.length : Int) := of_decide_eq_true (by first | (with_reducible assumption) | assumption)
        obtain ⟨ad412, e412, hx412_0⟩ := Kd.at_string HR1.out x5_1 p412 q412
        cases e412
        replace p412 := eq_true p412
        replace q412 := eq_true q412
        go_wp2
        repeat (go_quiet (fail); try go_wp2)
        go_roundg k1
        case measure => have := HK1.out; omega
        case rel => exact ⟨(wrap64 (x5_1 + 1)), (by first | rfl | (simp; done) | (simp [*]; done)), H', ⟨by have := HK1.out; omega⟩, by repeat (first | exact Drawn0.refl _ | apply Drawn0.step)⟩
       ·rw [if_neg c7] at H
        have c7b0 : ((rdOf ByteArray.empty l0 x5_1).toList == (rdOf ByteArray.empty l1 x5_1).toList) = false := beq_eq_false_iff_ne.mpr c7
        have c7b1 : ((rdOf ByteArray.empty l0 x5_1).toList != (rdOf ByteArray.empty l1 x5_1).toList) = true := bne_iff_ne.mpr c7
        obtain rfl := Option.some.inj H
        have p411 : 0 ≤ (x5_1 : Int) := of_decide_eq_true (by first | (with_reducible assumption) | assumption)
        have q411 : x5_1 < (l0.length : Int) := of_decide_eq_true (by first | (with_reducible assumption) | assumption)
        obtain ⟨ad411, e411, hx411_0⟩ := Kd.at_string HR0.out x5_1 p411 q411
        cases e411
        replace p411 := eq_true p411
        replace q411 := eq_true q411
        have p412 : 0 ≤ (x5_1 : Int) := of_decide_eq_true (by first | (with_reducible assumption) | assumption)
        have q412 : x5_1 < (l1.length : Int) := of_decide_eq_true (by first | (with_reducible assumption) | assumption)
        obtain ⟨ad412, e412, hx412_0⟩ := Kd.at_string HR1.out x5_1 p412 q412
        cases e412
        replace p412 := eq_true p412
        replace q412 := eq_true q412
        go_wp2
        repeat (go_quiet (fail); try go_wp2)
        go_ret
        exact ⟨by first | rfl | (simp; done) | (simp [*]; done), by repeat (first | exact Drawn0.refl _ | apply Drawn0.step)⟩
      ·rw [if_neg c6] at H
       exact absurd H (by simp)
     ·rw [if_neg c5] at H
      exact absurd H (by simp)
    ·rw [if_neg c4] at H
     have c4b0 : decide (x5_1 < (l0.length : Int)) = false := decide_eq_false c4
     clear c4
     obtain rfl := Option.some.inj H
     go_wp2
     repeat (go_quiet (fail); try go_wp2)
     go_ret
     exact ⟨by first | rfl | (simp; done) | (simp [*]; done), by repeat (first | exact Drawn0.refl _ | apply Drawn0.step)⟩
 ·rw [if_neg c3] at H
  have c3b0 : ((l0.length : Int) == (l1.length : Int)) = false := beq_eq_false_iff_ne.mpr c3
  have c3b1 : ((l0.length : Int) != (l1.length : Int)) = true := bne_iff_ne.mpr c3
  have c3b2 : (l0.length == l1.length) = false := by first | simpa using c3 | (simp at c3 ⊢; omega)
  obtain rfl := Option.some.inj H
  go_enter Try.func30, Try.ntmps30
  go_wp2
  repeat (go_quiet (fail); try go_wp2)
  go_ret
  exact ⟨by first | rfl | (simp; done) | (simp [*]; done), by repeat (first | exact Drawn0.refl _ | apply Drawn0.step)⟩
def spec_l04Dump.l0 : Nat → List (S24) → List ByteArray → Int → Option (List ByteArray)
 | 0, _, _, _ => none
 | k + 1, x0, x3, x4 => if x4 < (x0.length : Int) then (if 0 ≤ x4 then ((spec_l04Bytes.f k 1 ((rd_T24 x0 x4).f0) ((rd_T24 x0 x4).f1) ((rd_T24 x0 x4).f2) ((rd_T24 x0 x4).f3) ((rd_T24 x0 x4).f4) ((rd_T24 x0 x4).f5) ((rd_T24 x0 x4).f6)).bind fun t417 => (if x3.length < 8796093022208 then (spec_l04Dump.l0 k x0 (x3 ++ [t417]) (wrap64 (x4 + 1))) else (none))) else (none)) else ((spec_l04Bytes.f k 3 0 0 0 0 0 0 false).bind fun t421 => (if x3.length < 8796093022208 then (some (x3 ++ [t421])) else (none)))
def spec_l04Dump.f (k : Nat) (l0 : List (S24)) : Option (List ByteArray) := spec_l04Dump.l0 k l0 (([] : List ByteArray)) 0
set_option maxHeartbeats 8000000 in
set_option maxRecDepth 100000 in
theorem spec_l04Dump.calls (k : Nat) (A0 : Option Addr) (c0 : Nat) (l0 : List (S24)) (r : List ByteArray) (w : World) (hr0 : Kd.C k24 w A0 l0.length l0) (hc0 : l0.length ≤ c0) (h : spec_l04Dump.f k l0 = some r) :
  Calls Try.prog 88 #[.slice A0 l0.length c0] w fun e w' => ∃ v0_ : Value, e = .returned (v0_) ∧ Kd.R Kd.string 9 w' w.heap.size (fun _ => True) v0_ r ∧ Below w.heap.size w w' := by
 have hu24 := Try.underlying24
 have hu42 := Try.underlying42
 have HR0 := Aside0.mk hr0
 have HC0 := Aside0.mk hc0
 clear hr0 hc0
 have HB := Aside0.mk (Below.refl w.heap.size w)
 have H : (spec_l04Dump.l0 k l0 (([] : List ByteArray)) 0) = some r := h
 clear h
 obtain ⟨y413, hy413⟩ : ∃ y_ : List ByteArray, y_ = (([] : List ByteArray)) := ⟨_, rfl⟩
 replace H : (spec_l04Dump.l0 k l0 y413 0) = some r := by first | (rw [hy413]; with_reducible exact H) | (have H2_ := (Option.bind_some _ _).symm.trans H; rw [hy413]; with_reducible exact H2_) | (have H2_ := (Option.bind_some _ _).symm.trans H; with_reducible exact H2_) | with_reducible exact H | (rw [hy413]; exact H) | exact H
 have Ny413 := Aside0.mk hy413
 clear hy413
 have H' := Aside0.mk H
 clear H
 go_enter Try.func88, Try.ntmps88
 go_wp2_with (first | ((with_reducible refine gate_dst (N := 5) rfl ?_); refine Kd.R_lit Kd.string _ 9 ?hg (N := 5) ?hd (xs := ([] : List ByteArray)) (inner := []) (ok := fun _ => True) (okp := fun _ => True) ?hr ?hp (fun _ hk => hk) trivial (Below.refl _ _) (Nat.le_refl _) (by simp) ?_; (case hd => rfl); (case hg => rfl); (case hr => first | (go_simp; done) | (go_simp; rfl)); (case hp => exact (Reps.none _ _)); intro v414 w2 ho3 hb hg_ hnew_; clear hg_ hnew_; (first | rw [← Ny413.out] at ho3 | (simp only [Int.reduceToNat] at ho3; rw [← Ny413.out] at ho3)); have n0_ := Aside0.mk (Kd.R_lower ho3 (below_size (by repeat (first | (with_reducible first | exact HB.out | apply below_alloc | apply pw_below_drewN | apply below_drew1) | exact HB.out)))); have n1_ := Aside0.mk (below_step (by repeat (first | (with_reducible first | exact HB.out | apply below_alloc | apply pw_below_drewN | apply below_drew1) | exact HB.out)) hb); clear HB; have HO415 := n0_; have HB := n1_; clear n0_ n1_; clear hb ho3))
 (try (unfold Instr.field; go_simp; unfold asAgg; go_simp; go_wp2))
 go_loopg [3, 4] k (fun kq v3 v4 w' => ∃ (x3_1 : List ByteArray) (x4_1 : Int), v4 = .int .i64 x4_1 ∧ Aside0 (spec_l04Dump.l0 kq l0 x3_1 x4_1 = some r) ∧ Aside0 (kq ≤ k) ∧ Aside0 (Kd.R Kd.string 9 w' w.heap.size (fun _ => True) v3 x3_1) ∧ Aside0 (Below w.heap.size w w'))
 case atStart => exact ⟨(y413), (0), (by first | rfl | (simp; done) | (simp [*]; done)), H', ⟨Nat.le_refl _⟩, ⟨by (with_reducible repeat (first | apply Kd.R_alloc | apply Kd.R_drewN | apply Kd.R_drew)); exact HO415.out⟩, ⟨by repeat (first | (with_reducible first | exact HB.out | apply below_alloc | apply pw_below_drewN | apply below_drew1) | exact HB.out)⟩⟩
 case round =>
  clear H'
  try clear p2
  obtain ⟨x3_1, x4_1, rfl, HA, HK1, HO_3, HB⟩ := hrel
  cases gk with
  | zero => exact absurd HA.out (by simp [spec_l04Dump.l0])
  | succ k1 =>
   have H := HA.out
   clear HA
   simp only [spec_l04Dump.l0] at H
   by_cases c4 : x4_1 < (l0.length : Int)
   ·rw [if_pos c4] at H
    have c4b0 : decide (x4_1 < (l0.length : Int)) = true := decide_eq_true c4
    clear c4
    by_cases c5 : 0 ≤ x4_1
    ·rw [if_pos c5] at H
     have c5b0 : decide (0 ≤ x4_1) = true := decide_eq_true c5
     clear c5
     replace H := Option.bind_eq_some_iff.mp H
     obtain ⟨t417, A60, H⟩ := H
     try dsimp only at H
     have A6 := Aside0.mk A60
     clear A60
     by_cases c7 : x3_1.length < 8796093022208
     ·rw [if_pos c7] at H
      have LMc7 := Aside0.mk c7
      clear c7
      obtain ⟨y418, hy418⟩ : ∃ y_ : List ByteArray, y_ = (x3_1 ++ [t417]) := ⟨_, rfl⟩
      replace H : (spec_l04Dump.l0 k1 l0 y418 (wrap64 (x4_1 + 1))) = some r := by first | (rw [hy418]; with_reducible exact H) | (have H2_ := (Option.bind_some _ _).symm.trans H; rw [hy418]; with_reducible exact H2_) | (have H2_ := (Option.bind_some _ _).symm.trans H; with_reducible exact H2_) | with_reducible exact H | (rw [hy418]; exact H) | exact H
      have Ny418 := Aside0.mk hy418
      clear hy418
      have H' := Aside0.mk H
      clear H
      have p416 : 0 ≤ (x4_1 : Int) := of_decide_eq_true (by first | (with_reducible assumption) | assumption)
      have q416 : x4_1 < (l0.length : Int) := of_decide_eq_true (by first | (with_reducible assumption) | assumption)
      obtain ⟨ad416, e416, hx416_0, hx416_1, hx416_2, hx416_3, hx416_4, hx416_5, hx416_6⟩ := at_T24 HR0.out x4_1 p416 q416
      cases e416
      replace hx416_0 := (HB.out.cell (World.block_lt_of_cell? w _ hx416_0)).trans hx416_0
      replace hx416_1 := (HB.out.cell (World.block_lt_of_cell? w _ hx416_1)).trans hx416_1
      replace hx416_2 := (HB.out.cell (World.block_lt_of_cell? w _ hx416_2)).trans hx416_2
      replace hx416_3 := (HB.out.cell (World.block_lt_of_cell? w _ hx416_3)).trans hx416_3
      replace hx416_4 := (HB.out.cell (World.block_lt_of_cell? w _ hx416_4)).trans hx416_4
      replace hx416_5 := (HB.out.cell (World.block_lt_of_cell? w _ hx416_5)).trans hx416_5
      replace hx416_6 := (HB.out.cell (World.block_lt_of_cell? w _ hx416_6)).trans hx416_6
      replace p416 := eq_true p416
      replace q416 := eq_true q416
      go_wp2_with (first | ((with_reducible refine gate_callee (f := 86) rfl ?_); refine goesL_ (some 18) rfl rfl Try.func86 (by kernel_rfl) rfl #[.agg #[.int .i64 1, .int .i64 ((rd_T24 l0 x4_1).f0), .int .i64 ((rd_T24 l0 x4_1).f1), .int .i64 ((rd_T24 l0 x4_1).f2), .int .i64 ((rd_T24 l0 x4_1).f3), .int .i64 ((rd_T24 l0 x4_1).f4), .int .i64 ((rd_T24 l0 x4_1).f5), .bool ((rd_T24 l0 x4_1).f6)]] rfl (by (try simp only [mA, mC, mN]); first | done | rfl | (simp only [List.length_drop, List.length_take]; rfl)) ?_; (with_reducible refine (spec_l04Bytes.calls k1 1 ((rd_T24 l0 x4_1).f0) ((rd_T24 l0 x4_1).f1) ((rd_T24 l0 x4_1).f2) ((rd_T24 l0 x4_1).f3) ((rd_T24 l0 x4_1).f4) ((rd_T24 l0 x4_1).f5) ((rd_T24 l0 x4_1).f6) t417 _ A6.out).mono ?_); rintro e w8 ⟨rfl, hb⟩; refine ⟨_, rfl, ?_⟩; have n0_ := Aside0.mk (Kd.R_below (by (with_reducible repeat (first | apply Kd.R_alloc | apply Kd.R_drewN | apply Kd.R_drew)); exact HO_3.out) hb); have n1_ := Aside0.mk (below_step (by repeat (first | (with_reducible first | exact HB.out | apply below_alloc | apply pw_below_drewN | apply below_drew1) | exact HB.out)) hb); clear HO_3; clear HB; have HO_3 := n0_; have HB := n1_; clear n0_ n1_; (try clear hb); (try clear hb2); (try clear hk); (try clear hi)) | ((with_reducible refine gate_builtin (b := .append) (xs := #[.tmp 12, .tmp 19]) rfl ?_); at_builtin; refine Kd.R_append Kd.string (w0 := w) w.heap.size rfl (.tmp 12) (.tmp 19) 49 9 (.string ⟨#[]⟩) 16 rfl Try.underlying49 info9 rfl (by decide) (by omega) u3 x3_1 t417 [.string t417] (fun _ => True) (fun _ => False) rfl rfl ?aP (fun _ hk => hk.elim) ?aF ?aO ?aB ?aS ?aL ?_; (case aP => exact rfl); (case aB => exact (by repeat (first | (with_reducible first | exact HB.out | apply below_alloc | apply pw_below_drewN | apply below_drew1) | exact HB.out))); (case aF => exact (fun _ _ => trivial)); (case aO => exact (by (with_reducible repeat (first | apply Kd.R_alloc | apply Kd.R_drewN | apply Kd.R_drew)); exact HO_3.out)); (case aS => exact (below_size (by repeat (first | (with_reducible first | exact HB.out | apply below_alloc | apply pw_below_drewN | apply below_drew1) | exact HB.out)))); (case aL => have := LMc7.out; omega); intro v419 w9 ho hb hg hat; rw [← Ny418.out] at ho; have n0_ := Aside0.mk (hb); have n1_ := Aside0.mk (ho); clear HB; clear HO_3; have HB := n0_; have HO420 := n1_; clear n0_ n1_; clear ho hb hg hat))
      (try (unfold Instr.field; go_simp; unfold asAgg; go_simp; go_wp2))
      go_roundg k1
      case measure => have := HK1.out; omega
      case rel => exact ⟨(y418), (wrap64 (x4_1 + 1)), (by first | rfl | (simp; done) | (simp [*]; done)), H', ⟨by have := HK1.out; omega⟩, ⟨by (with_reducible repeat (first | apply Kd.R_alloc | apply Kd.R_drewN | apply Kd.R_drew)); exact HO420.out⟩, ⟨by repeat (first | (with_reducible first | exact HB.out | apply below_alloc | apply pw_below_drewN | apply below_drew1) | exact HB.out)⟩⟩
     ·rw [if_neg c7] at H
      exact absurd H (by simp)
    ·rw [if_neg c5] at H
     exact absurd H (by simp)
   ·rw [if_neg c4] at H
    have c4b0 : decide (x4_1 < (l0.length : Int)) = false := decide_eq_false c4
    clear c4
    replace H := Option.bind_eq_some_iff.mp H
    obtain ⟨t421, A100, H⟩ := H
    try dsimp only at H
    have A10 := Aside0.mk A100
    clear A100
    by_cases c11 : x3_1.length < 8796093022208
    ·rw [if_pos c11] at H
     have LMc11 := Aside0.mk c11
     clear c11
     obtain ⟨y422, hy422⟩ : ∃ y_ : List ByteArray, y_ = (x3_1 ++ [t421]) := ⟨_, rfl⟩
     replace H : (some y422) = some r := by first | (rw [hy422]; with_reducible exact H) | (have H2_ := (Option.bind_some _ _).symm.trans H; rw [hy422]; with_reducible exact H2_) | (have H2_ := (Option.bind_some _ _).symm.trans H; with_reducible exact H2_) | with_reducible exact H | (rw [hy422]; exact H) | exact H
     have Ny422 := Aside0.mk hy422
     clear hy422
     obtain rfl := Option.some.inj H
     go_wp2_with (first | ((with_reducible refine gate_callee (f := 86) rfl ?_); refine goesL_ (some 23) rfl rfl Try.func86 (by kernel_rfl) rfl #[.agg #[.int .i64 3, .int .i64 0, .int .i64 0, .int .i64 0, .int .i64 0, .int .i64 0, .int .i64 0, .bool false]] rfl (by (try simp only [mA, mC, mN]); first | done | rfl | (simp only [List.length_drop, List.length_take]; rfl)) ?_; (with_reducible refine (spec_l04Bytes.calls k1 3 0 0 0 0 0 0 false t421 _ A10.out).mono ?_); rintro e w12 ⟨rfl, hb⟩; refine ⟨_, rfl, ?_⟩; have n0_ := Aside0.mk (Kd.R_below (by (with_reducible repeat (first | apply Kd.R_alloc | apply Kd.R_drewN | apply Kd.R_drew)); exact HO_3.out) hb); have n1_ := Aside0.mk (below_step (by repeat (first | (with_reducible first | exact HB.out | apply below_alloc | apply pw_below_drewN | apply below_drew1) | exact HB.out)) hb); clear HO_3; clear HB; have HO_3 := n0_; have HB := n1_; clear n0_ n1_; (try clear hb); (try clear hb2); (try clear hk); (try clear hi)) | ((with_reducible refine gate_builtin (b := .append) (xs := #[.tmp 21, .tmp 24]) rfl ?_); at_builtin; refine Kd.R_append Kd.string (w0 := w) w.heap.size rfl (.tmp 21) (.tmp 24) 49 9 (.string ⟨#[]⟩) 16 rfl Try.underlying49 info9 rfl (by decide) (by omega) u3 x3_1 t421 [.string t421] (fun _ => True) (fun _ => False) rfl rfl ?aP (fun _ hk => hk.elim) ?aF ?aO ?aB ?aS ?aL ?_; (case aP => exact rfl); (case aB => exact (by repeat (first | (with_reducible first | exact HB.out | apply below_alloc | apply pw_below_drewN | apply below_drew1) | exact HB.out))); (case aF => exact (fun _ _ => trivial)); (case aO => exact (by (with_reducible repeat (first | apply Kd.R_alloc | apply Kd.R_drewN | apply Kd.R_drew)); exact HO_3.out)); (case aS => exact (below_size (by repeat (first | (with_reducible first | exact HB.out | apply below_alloc | apply pw_below_drewN | apply below_drew1) | exact HB.out)))); (case aL => have := LMc11.out; omega); intro v423 w13 ho hb hg hat; rw [← Ny422.out] at ho; have n0_ := Aside0.mk (hb); have n1_ := Aside0.mk (ho); clear HB; clear HO_3; have HB := n0_; have HO424 := n1_; clear n0_ n1_; clear ho hb hg hat))
     (try (unfold Instr.field; go_simp; unfold asAgg; go_simp; go_wp2))
     go_ret
     exact ⟨_, by first | rfl | (simp [errW_none, errW_some] <;> rfl) | (simp [*, errW_none, errW_some] <;> rfl), by (with_reducible repeat (first | apply Kd.R_alloc | apply Kd.R_drewN | apply Kd.R_drew)); exact HO424.out, by repeat (first | (with_reducible first | exact HB.out | apply below_alloc | apply pw_below_drewN | apply below_drew1) | exact HB.out)⟩
    ·rw [if_neg c11] at H
     exact absurd H (by simp)
end Go.Proofs.Ytbanbmkfdkbfiaa.PFnNote
