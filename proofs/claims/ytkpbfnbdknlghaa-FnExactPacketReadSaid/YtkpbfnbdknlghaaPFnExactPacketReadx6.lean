-- Written by a program of this session (wip/ep), out of the translation. Lean checks it.
import Derived.Test.YtkpbfnbdknlghaaPFnExactPacketReadx0
import Derived.Test.YtkpbfnbdknlghaaPFnExactPacketReadx2
import Derived.Test.YtkpbfnbdknlghaaPFnExactPacketReadx3
import Derived.Test.YtkpbfnbdknlghaaPFnExactPacketReadx4
import Derived.Test.YtkpbfnbdknlghaaPFnExactPacketReadx5
namespace Go.Proofs.Ytkpbfnbdknlghaa.PFnExactPacketRead
open Go.RowKit Go.Proofs.YtkpbfnbdknlghaaW.PrintWords Go.Proofs.YtkpbfnbdknlghaaW.PrintLast Go.Proofs.YtkpbfnbdknlghaaW.PrintMore
attribute [local go_sem] max2_int min2_int max_two min_two max_three min_three max_four min_four   -- for this text's walks alone
set_option linter.unusedVariables false
set_option linter.unusedSimpArgs false

/-! ### spec_PacketRead: function 19 -/
def spec_PacketRead.f (k : Nat) (a0 : ByteArray) : Option (Int × Int × Int × Int × ByteArray × Int) :=
  (spec_Unseal.f k a0).bind fun u =>
  if u.2.2 = 0 then
    (spec_l03Reader_num.f k u.1 0 false).bind fun x1 => (spec_l03Reader_num.f k x1.2.1 x1.2.2.1 x1.2.2.2).bind fun x2 => (spec_l03Reader_num.f k x2.2.1 x2.2.2.1 x2.2.2.2).bind fun x3 => (spec_l03Reader_num.f k x3.2.1 x3.2.2.1 x3.2.2.2).bind fun x4 => (spec_l03Reader_text.f k x4.2.1 x4.2.2.1 x4.2.2.2).bind fun x5 => 
    if x5.2.2.2 = true then some (0, 0, 0, 0, ⟨#[]⟩, 3) else
    (spec_PacketBytes.f k x1.1 x2.1 x3.1 x4.1 x5.1).bind fun b => if b = a0 then some (x1.1, x2.1, x3.1, x4.1, x5.1, 0) else some (0, 0, 0, 0, ⟨#[]⟩, 3)
  else some (0, 0, 0, 0, ⟨#[]⟩, u.2.2)
theorem spec_PacketRead.mono : ∀ a0 k, LeO (spec_PacketRead.f k a0) (spec_PacketRead.f (k + 1) a0) := by
  intro a0 k
  unfold spec_PacketRead.f
  repeat' first
      | (with_reducible exact spec_l03Reader_num.mono _ _ _ _)
      | (with_reducible exact spec_l03Reader_text.mono _ _ _ _)
      | (with_reducible exact spec_Unseal.mono _ _)
      | (with_reducible exact spec_PacketBytes.mono _ _ _ _ _ _)
      | (with_reducible exact LeO.refl _)
      | (with_reducible exact LeO.none _)
      | (with_reducible refine LeO.ite ?_ ?_)
      | (with_reducible refine LeO.bind ?_ (fun _ => ?_))
      | exact spec_l03Reader_num.mono _ _ _ _
      | exact spec_l03Reader_text.mono _ _ _ _
      | exact spec_Unseal.mono _ _
      | exact spec_PacketBytes.mono _ _ _ _ _ _
      | exact LeO.refl _
      | refine LeO.ite ?_ ?_
      | refine LeO.bind ?_ (fun _ => ?_)
theorem spec_PacketRead.gen {P : Program} {c : Code} {Q : Exit → Act → World → Prop} {a : Act} {W : World} (p : World → Prop) (h : p W) (k : ∀ W1, p W1 → Code.wp P c Q a W1) : Code.wp P c Q a W := k W h
theorem spec_PacketRead.str_ne {a b : ByteArray} (h : a ≠ b) : (a.toList == b.toList) = false := by
  rw [beq_eq_false_iff_ne, ByteArray.toList_eq, ByteArray.toList_eq]
  intro e
  exact h (ByteArray.ext (Array.toList_inj.1 e))
structure spec_PacketRead.ST (w W : World) (g gx gu : Nat) (t : ByteArray) (i : Int) (d : Bool) (c : Array Value) (U : Array Value) : Prop where
  st : IsS54 w W g t i d
  bx : W.heap[gx]? = some (.cells c 41 (0, 0))
  bu : W.heap[gu]? = some (.cells U 68 (0, 0))
  bo : W.heap[w.heap.size]? = some (.cells #[.int .i64 0, .int .i64 0, .int .i64 0, .int .i64 0, .string ⟨#[]⟩, .int .i64 0] 43 (0, 0))
  bl : Below w.heap.size w W
theorem spec_PacketRead.ST.call {w W W1 : World} {g gx gu : Nat} {t t1 : ByteArray} {i i1 : Int} {d d1 : Bool} {c U : Array Value} (h : spec_PacketRead.ST w W g gx gu t i d c U) (hI : IsS54 w W1 g t1 i1 d1) (hB : Below w.heap.size w W1) (hK : KeepBut W W1 g none) : spec_PacketRead.ST w W1 g gx gu t1 i1 d1 c U :=
  ⟨hI, hK.blk h.bx (Ne.symm (h.st.ne_blk h.bx (by decide))) (by simp), hK.blk h.bu (Ne.symm (h.st.ne_blk h.bu (by decide))) (by simp), hK.blk h.bo (Ne.symm (h.st.ne_blk h.bo (by decide))) (by simp), hB⟩
theorem spec_PacketRead.ST.far {w W W1 : World} {g gx gu : Nat} {t : ByteArray} {i : Int} {d : Bool} {c U : Array Value} (h : spec_PacketRead.ST w W g gx gu t i d c U) (hb : Below W.heap.size W W1) : spec_PacketRead.ST w W1 g gx gu t i d c U := ⟨h.st.below hb, blk_below h.bx hb, blk_below h.bu hb, blk_below h.bo hb, below_step h.bl hb⟩
theorem spec_PacketRead.ST.drewN {w W : World} {g gx gu : Nat} {t : ByteArray} {i : Int} {d : Bool} {c U : Array Value} (h : spec_PacketRead.ST w W g gx gu t i d c U) (n : Nat) : spec_PacketRead.ST w (W.drewN n) g gx gu t i d c U := ⟨h.st.drewN n, blk_drewN h.bx n, blk_drewN h.bu n, blk_drewN h.bo n, pw_below_drewN h.bl n⟩
theorem spec_PacketRead.ST.drew {w W : World} {g gx gu : Nat} {t : ByteArray} {i : Int} {d : Bool} {c U : Array Value} (h : spec_PacketRead.ST w W g gx gu t i d c U) : spec_PacketRead.ST w W.drew g gx gu t i d c U := ⟨h.st.drew, blk_drew h.bx, blk_drew h.bu, blk_drew h.bo, below_drew1 h.bl⟩
theorem spec_PacketRead.ST.set {w W : World} {g gx gu : Nat} {t : ByteArray} {i : Int} {d : Bool} {c U : Array Value} (h : spec_PacketRead.ST w W g gx gu t i d c U) (hx : w.heap.size ≤ gx) (j : Nat) (u : Value) : spec_PacketRead.ST w (W.setCell ⟨gx, j, none⟩ u) g gx gu t i d (c.setIfInBounds j u) U :=
  ⟨h.st.far (h.st.ne_blk h.bx (by decide)) u, blk_set h.bx j u, blk_far h.bu (blk_ne h.bu h.bx (by decide)) u, blk_far h.bo (blk_ne h.bo h.bx (by decide)) u, below_set h.bl hx⟩
theorem spec_PacketRead.fin {W : World} {g : Nat} {o0 o1 o2 o3 o4 o5 : Value} (h : W.heap[g]? = some (.cells #[o0, o1, o2, o3, o4, o5] 43 (0, 0))) (v0 v1 v2 v3 v4 v5 : Value) : ((((((W.setCell ⟨g, 0, none⟩ v0).setCell ⟨g, 1, none⟩ v1).setCell ⟨g, 2, none⟩ v2).setCell ⟨g, 3, none⟩ v3).setCell ⟨g, 4, none⟩ v4).setCell ⟨g, 5, none⟩ v5).heap[g]? = some (.cells #[v0, v1, v2, v3, v4, v5] 43 (0, 0)) := by
  have h1 := blk_set h 0 v0
  have h2 := blk_set h1 1 v1
  have h3 := blk_set h2 2 v2
  have h4 := blk_set h3 3 v3
  have h5 := blk_set h4 4 v4
  have h6 := blk_set h5 5 v5
  simpa using h6
theorem spec_PacketRead.set6 {w W : World} (h : Below w.heap.size w W) (v0 v1 v2 v3 v4 v5 : Value) : Below w.heap.size w ((((((W.setCell ⟨w.heap.size, 0, none⟩ v0).setCell ⟨w.heap.size, 1, none⟩ v1).setCell ⟨w.heap.size, 2, none⟩ v2).setCell ⟨w.heap.size, 3, none⟩ v3).setCell ⟨w.heap.size, 4, none⟩ v4).setCell ⟨w.heap.size, 5, none⟩ v5) := (below_set (below_set (below_set (below_set (below_set (below_set h (Nat.le_refl _)) (Nat.le_refl _)) (Nat.le_refl _)) (Nat.le_refl _)) (Nat.le_refl _)) (Nat.le_refl _))
theorem spec_PacketRead.facts0 {W : World} {g : Nat} (h : W.heap[g]? = some (.cells #[.int .i64 0, .int .i64 0, .int .i64 0, .int .i64 0, .string ⟨#[]⟩, .int .i64 0] 43 (0, 0))) :
    W.cell? ⟨g, 0, none⟩ = some (.int .i64 0) ∧ W.cell? ⟨g, 1, none⟩ = some (.int .i64 0) ∧ W.cell? ⟨g, 2, none⟩ = some (.int .i64 0) ∧ W.cell? ⟨g, 3, none⟩ = some (.int .i64 0) ∧ W.cell? ⟨g, 4, none⟩ = some (.string ⟨#[]⟩) ∧ W.cell? ⟨g, 5, none⟩ = some (.int .i64 0) ∧ W.frozen? ⟨g, 0, none⟩ = false ∧ W.frozen? ⟨g, 1, none⟩ = false ∧ W.frozen? ⟨g, 2, none⟩ = false ∧ W.frozen? ⟨g, 3, none⟩ = false ∧ W.frozen? ⟨g, 4, none⟩ = false ∧ W.frozen? ⟨g, 5, none⟩ = false :=
  ⟨(blk_cell h 0).trans rfl, (blk_cell h 1).trans rfl, (blk_cell h 2).trans rfl, (blk_cell h 3).trans rfl, (blk_cell h 4).trans rfl, (blk_cell h 5).trans rfl, blk_frozen h 0, blk_frozen h 1, blk_frozen h 2, blk_frozen h 3, blk_frozen h 4, blk_frozen h 5⟩
theorem spec_PacketRead.ST.facts {w W : World} {g gx gu : Nat} {t : ByteArray} {i : Int} {d : Bool} {x1 x2 x3 x4 : Int} {x5 u : ByteArray} {U : Array Value} (h : spec_PacketRead.ST w W g gx gu t i d #[.int .i64 x1, .int .i64 x2, .int .i64 x3, .int .i64 x4, .string x5] U) (hU : U[0]? = some (.string u)) :
    W.cell? ⟨gx, 0, none⟩ = some (.int .i64 x1) ∧ W.cell? ⟨gx, 1, none⟩ = some (.int .i64 x2) ∧ W.cell? ⟨gx, 2, none⟩ = some (.int .i64 x3) ∧ W.cell? ⟨gx, 3, none⟩ = some (.int .i64 x4) ∧ W.cell? ⟨gx, 4, none⟩ = some (.string x5) ∧ W.cell? ⟨g, 2, none⟩ = some (.bool d) ∧ W.cell? ⟨gu, 0, none⟩ = some (.string u) ∧ W.cell? ⟨w.heap.size, 0, none⟩ = some (.int .i64 0) ∧ W.cell? ⟨w.heap.size, 1, none⟩ = some (.int .i64 0) ∧ W.cell? ⟨w.heap.size, 2, none⟩ = some (.int .i64 0) ∧ W.cell? ⟨w.heap.size, 3, none⟩ = some (.int .i64 0) ∧ W.cell? ⟨w.heap.size, 4, none⟩ = some (.string ⟨#[]⟩) ∧ W.cell? ⟨w.heap.size, 5, none⟩ = some (.int .i64 0) ∧ W.frozen? ⟨w.heap.size, 0, none⟩ = false ∧ W.frozen? ⟨w.heap.size, 1, none⟩ = false ∧ W.frozen? ⟨w.heap.size, 2, none⟩ = false ∧ W.frozen? ⟨w.heap.size, 3, none⟩ = false ∧ W.frozen? ⟨w.heap.size, 4, none⟩ = false ∧ W.frozen? ⟨w.heap.size, 5, none⟩ = false :=
  ⟨(blk_cell h.bx 0).trans rfl, (blk_cell h.bx 1).trans rfl, (blk_cell h.bx 2).trans rfl, (blk_cell h.bx 3).trans rfl, (blk_cell h.bx 4).trans rfl, (blk_cell h.st.1 2).trans rfl, (blk_cell h.bu 0).trans hU, (blk_cell h.bo 0).trans rfl, (blk_cell h.bo 1).trans rfl, (blk_cell h.bo 2).trans rfl, (blk_cell h.bo 3).trans rfl, (blk_cell h.bo 4).trans rfl, (blk_cell h.bo 5).trans rfl, blk_frozen h.bo 0, blk_frozen h.bo 1, blk_frozen h.bo 2, blk_frozen h.bo 3, blk_frozen h.bo 4, blk_frozen h.bo 5⟩
set_option maxHeartbeats 1600000 in
set_option maxRecDepth 100000 in
theorem spec_PacketRead.calls (k : Nat) (a0 : ByteArray) (r1 : Int) (r2 : Int) (r3 : Int) (r4 : Int) (r5 : ByteArray) (r6 : Int) (w : World) (h : spec_PacketRead.f k a0 = some (r1, r2, r3, r4, r5, r6)) :
    Calls Try.prog 19 #[.string a0] w fun e w' => e = .returned (.agg #[.int .i64 r1, .int .i64 r2, .int .i64 r3, .int .i64 r4, .string r5, .int .i64 r6]) ∧ Below w.heap.size w w' := by
  have hu41 := Try.underlying41
  have hu43 := Try.underlying43
  have hu68 := Try.underlying68
  have hu54 := Try.underlying54
  unfold spec_PacketRead.f at h
  replace h := Option.bind_eq_some_iff.mp h
  obtain ⟨⟨u1, u2, u3⟩, q0, h⟩ := h
  have Q0 := Aside0.mk q0
  have H0 := Aside0.mk h
  clear q0 h
  go_enter Try.func19, Try.ntmps19
  go_wp2_with fail
  go_at_call 37
  with_reducible refine (spec_Unseal.calls k a0 u1 u2 u3 _ Q0.out).mono ?_
  rintro e w1 ⟨rfl, hb⟩
  have bO1 := Aside0.mk (blk_below (heap_alloc_new w _) hb)
  have bl1 := Aside0.mk (below_step (below_alloc (Below.refl _ _) _) hb)
  clear hb
  by_cases h0 : u3 = 0
  · have hh := H0.out
    rw [if_pos h0] at hh
    have h0b : (u3 != 0) = false := bne_eq_false_iff_eq.mpr h0
    clear h0 H0
    replace hh := Option.bind_eq_some_iff.mp hh
    obtain ⟨⟨x1, t1, i1, d1⟩, q1, hh⟩ := hh
    have Q1 := Aside0.mk q1
    clear q1
    replace hh := Option.bind_eq_some_iff.mp hh
    obtain ⟨⟨x2, t2, i2, d2⟩, q2, hh⟩ := hh
    have Q2 := Aside0.mk q2
    clear q2
    replace hh := Option.bind_eq_some_iff.mp hh
    obtain ⟨⟨x3, t3, i3, d3⟩, q3, hh⟩ := hh
    have Q3 := Aside0.mk q3
    clear q3
    replace hh := Option.bind_eq_some_iff.mp hh
    obtain ⟨⟨x4, t4, i4, d4⟩, q4, hh⟩ := hh
    have Q4 := Aside0.mk q4
    clear q4
    replace hh := Option.bind_eq_some_iff.mp hh
    obtain ⟨⟨x5, t5, i5, d5⟩, q5, hh⟩ := hh
    have Q5 := Aside0.mk q5
    clear q5
    have H := Aside0.mk hh
    clear hh
    go_wp2_with fail
    have BU := Aside0.mk (blk_alloc (blk_new w1 (.cells #[.string u1, .int .i64 u2, .int .i64 u3] 68)) (.cells #[.string u1, .int .i64 0, .bool false] 54))
    have BO := Aside0.mk (blk_alloc (blk_alloc bO1.out (.cells #[.string u1, .int .i64 u2, .int .i64 u3] 68)) (.cells #[.string u1, .int .i64 0, .bool false] 54))
    have BL := Aside0.mk (below_alloc (below_alloc bl1.out (.cells #[.string u1, .int .i64 u2, .int .i64 u3] 68)) (.cells #[.string u1, .int .i64 0, .bool false] 54))
    have I0 := Aside0.mk (IsS54.new w (w1.alloc (.cells #[.string u1, .int .i64 u2, .int .i64 u3] 68)) u1 0 false (below_alloc bl1.out _))
    rw [show (w1.alloc (.cells #[.string u1, .int .i64 u2, .int .i64 u3] 68)).heap.size = w1.heap.size + 1 from by simp] at I0
    have hw1 := bl1.out.size
    have hw2 := blk_lt bO1.out
    clear bO1 bl1 Q0
    go_at_call 25
    with_reducible refine (spec_l03Reader_num.calls k _ u1 0 false x1 t1 i1 d1 w _ I0.out BL.out Q1.out).mono ?_
    rintro e w2 ⟨rfl, hI, hB, hK⟩
    have S1 := Aside0.mk (⟨IsS54.alloc hI _, blk_new w2 _, blk_alloc (hK.blk BU.out (by simp) (by simp)) _, blk_alloc (hK.blk BO.out (by omega) (by simp)) _, below_alloc hB _⟩ : spec_PacketRead.ST w (w2.alloc (.cells #[.int .i64 x1, .int .i64 0, .int .i64 0, .int .i64 0, .string ⟨#[]⟩] 41)) (w1.heap.size + 1) w2.heap.size w1.heap.size t1 i1 d1 _ _)
    have hlt := hB.size
    clear hI hB hK BU BO BL I0
    go_wp2_with fail
    go_at_call 25
    with_reducible refine (spec_l03Reader_num.calls k _ t1 i1 d1 x2 t2 i2 d2 w _ S1.out.st S1.out.bl Q2.out).mono ?_
    rintro e w3 ⟨rfl, hI, hB, hK⟩
    have S2 := Aside0.mk (S1.out.call hI hB hK)
    clear S1 hI hB hK
    have hc := (blk_cell S2.out.bx 1).trans rfl
    have hf := blk_frozen S2.out.bx 1
    go_wp2_with fail
    clear hc hf
    have T2 := Aside0.mk (S2.out.set hlt 1 (.int .i64 x2))
    clear S2
    go_at_call 25
    with_reducible refine (spec_l03Reader_num.calls k _ t2 i2 d2 x3 t3 i3 d3 w _ T2.out.st T2.out.bl Q3.out).mono ?_
    rintro e w4 ⟨rfl, hI, hB, hK⟩
    have S3 := Aside0.mk (T2.out.call hI hB hK)
    clear T2 hI hB hK
    have hc := (blk_cell S3.out.bx 2).trans rfl
    have hf := blk_frozen S3.out.bx 2
    go_wp2_with fail
    clear hc hf
    have T3 := Aside0.mk (S3.out.set hlt 2 (.int .i64 x3))
    clear S3
    go_at_call 25
    with_reducible refine (spec_l03Reader_num.calls k _ t3 i3 d3 x4 t4 i4 d4 w _ T3.out.st T3.out.bl Q4.out).mono ?_
    rintro e w5 ⟨rfl, hI, hB, hK⟩
    have S4 := Aside0.mk (T3.out.call hI hB hK)
    clear T3 hI hB hK
    have hc := (blk_cell S4.out.bx 3).trans rfl
    have hf := blk_frozen S4.out.bx 3
    go_wp2_with fail
    clear hc hf
    have T4 := Aside0.mk (S4.out.set hlt 3 (.int .i64 x4))
    clear S4
    go_at_call 38
    with_reducible refine (spec_l03Reader_text.calls k _ t4 i4 d4 x5 t5 i5 d5 w _ T4.out.st T4.out.bl Q5.out).mono ?_
    rintro e w6 ⟨rfl, hI, hB, hK⟩
    have S5 := Aside0.mk (T4.out.call hI hB hK)
    clear T4 hI hB hK
    have hc := (blk_cell S5.out.bx 4).trans rfl
    have hf := blk_frozen S5.out.bx 4
    have T5 := Aside0.mk (S5.out.set hlt 4 (.string x5))
    clear Q1 Q2 Q3 Q4 Q5
    go_upto_region 10 with (fail)
    refine spec_PacketRead.gen (fun W => spec_PacketRead.ST w W (w1.heap.size + 1) w2.heap.size w1.heap.size t5 i5 d5 #[.int .i64 x1, .int .i64 x2, .int .i64 x3, .int .i64 x4, .string x5] #[.string u1, .int .i64 u2, .int .i64 u3]) T5.out ?_
    clear T5 S5 hc hf
    intro W TW_
    have TW := Aside0.mk TW_
    clear TW_
    obtain ⟨c0, c1, c2, c3, c4, b2, u0, o0, o1, o2, o3, o4, o5, f0, f1, f2, f3, f4, f5⟩ := TW.out.facts rfl
    cases d5 with
    | true =>
      have hh := H.out
      rw [if_pos rfl] at hh
      simp only [Option.some.injEq, Prod.mk.injEq] at hh
      obtain ⟨rfl, rfl, rfl, rfl, rfl, rfl⟩ := hh
      clear H
      go_wp2_with fail
      refine bodyPost_ret (results_cell_row rfl _ _ w.heap.size 43 _ (0, 0) _ rfl (spec_PacketRead.fin TW.out.bo _ _ _ _ _ _) Try.underlying43 rfl (by kernel_rfl)) rfl ⟨rfl, spec_PacketRead.set6 TW.out.bl _ _ _ _ _ _⟩
    | false =>
      have hh := H.out
      rw [if_neg (by decide)] at hh
      replace hh := Option.bind_eq_some_iff.mp hh
      obtain ⟨b, qb, hh⟩ := hh
      have QB := Aside0.mk qb
      have H8 := Aside0.mk hh
      clear qb hh H
      go_wp2_with fail
      go_at_call 39
      with_reducible refine (spec_PacketBytes.calls k x1 x2 x3 x4 x5 b _ QB.out).mono ?_
      rintro e wb ⟨rfl, hb⟩
      have TB := Aside0.mk (TW.out.far hb)
      clear c0 c1 c2 c3 c4 b2 u0 o0 o1 o2 o3 o4 o5 f0 f1 f2 f3 f4 f5 hb TW
      obtain ⟨c0, c1, c2, c3, c4, b2, u0, o0, o1, o2, o3, o4, o5, f0, f1, f2, f3, f4, f5⟩ := TB.out.facts rfl
      by_cases hb : b = a0
      · have hb1 : (b.toList == a0.toList) = true := by rw [hb]; exact beq_self_eq_true _
        have hh := H8.out
        rw [if_pos hb] at hh
        simp only [Option.some.injEq, Prod.mk.injEq] at hh
        obtain ⟨rfl, rfl, rfl, rfl, rfl, rfl⟩ := hh
        clear hb H8
        go_wp2_with fail
        refine bodyPost_ret (results_cell_row rfl _ _ w.heap.size 43 _ (0, 0) _ rfl (spec_PacketRead.fin TB.out.bo _ _ _ _ _ _) Try.underlying43 rfl (by kernel_rfl)) rfl ⟨rfl, spec_PacketRead.set6 TB.out.bl _ _ _ _ _ _⟩
      · have hb1 : (b.toList == a0.toList) = false := spec_PacketRead.str_ne hb
        have hh := H8.out
        rw [if_neg hb] at hh
        simp only [Option.some.injEq, Prod.mk.injEq] at hh
        obtain ⟨rfl, rfl, rfl, rfl, rfl, rfl⟩ := hh
        clear hb H8
        go_wp2_with fail
        refine bodyPost_ret (results_cell_row rfl _ _ w.heap.size 43 _ (0, 0) _ rfl (spec_PacketRead.fin TB.out.bo _ _ _ _ _ _) Try.underlying43 rfl (by kernel_rfl)) rfl ⟨rfl, spec_PacketRead.set6 TB.out.bl _ _ _ _ _ _⟩
  · have hh := H0.out
    rw [if_neg h0] at hh
    have h0b : (u3 != 0) = true := bne_iff_ne.mpr h0
    clear h0 H0
    simp only [Option.some.injEq, Prod.mk.injEq] at hh
    obtain ⟨rfl, rfl, rfl, rfl, rfl, rfl⟩ := hh
    obtain ⟨o0, o1, o2, o3, o4, o5, f0, f1, f2, f3, f4, f5⟩ := spec_PacketRead.facts0 (blk_alloc bO1.out (.cells #[.string u1, .int .i64 u2, .int .i64 u3] 68))
    go_upto_region 3 with (fail)
    refine spec_PacketRead.gen (fun W => W.heap[w.heap.size]? = some (.cells #[.int .i64 0, .int .i64 0, .int .i64 0, .int .i64 0, .string ⟨#[]⟩, .int .i64 0] 43 (0, 0)) ∧ Below w.heap.size w W ∧ W.cell? ⟨w1.heap.size, 2, none⟩ = some (.int .i64 u3)) ⟨blk_alloc bO1.out _, below_alloc bl1.out _, (blk_cell (blk_new w1 _) 2).trans rfl⟩ ?_
    clear o0 o1 o2 o3 o4 o5 f0 f1 f2 f3 f4 f5
    rintro W ⟨bo, bl, z2⟩
    obtain ⟨o0, o1, o2, o3, o4, o5, f0, f1, f2, f3, f4, f5⟩ := spec_PacketRead.facts0 bo
    have BO := Aside0.mk bo
    have BL := Aside0.mk bl
    clear bo bl
    go_wp2_with fail
    refine bodyPost_ret (results_cell_row rfl _ _ w.heap.size 43 _ (0, 0) _ rfl (spec_PacketRead.fin BO.out _ _ _ _ _ _) Try.underlying43 rfl (by kernel_rfl)) rfl ⟨rfl, spec_PacketRead.set6 BL.out _ _ _ _ _ _⟩


/-! ### impl_isLong: function 27 -/
def impl_isLong.f (a0 : ByteArray) : Option (Bool) := some (decide ((a0.size : Int) > 8000))
set_option maxHeartbeats 8000000 in
set_option maxRecDepth 100000 in
theorem impl_isLong.calls (a0 : ByteArray) (r : Bool) (w : World) (h : impl_isLong.f a0 = some r) :
    Calls Try.prog 27 #[.string a0] w fun e w' => e = .returned (.bool r) ∧ Drawn0 w w' := by
  have H : (some (decide ((a0.size : Int) > 8000))) = some r := h
  clear h
  obtain rfl := Option.some.inj H
  go_enter Try.func27, Try.ntmps27
  go_wp2
  go_ret
  exact ⟨by first | rfl | (simp; done) | (simp [*]; done), by repeat (first | exact Drawn0.refl _ | apply Drawn0.step)⟩

/-! ### impl_crcMore: function 83 -/
def impl_crcMore.not (x : Int) : Int := Go.bits .xor .u32 IntKind.u32.max x
def impl_crcMore.bit (p : Int × Int) : Int × Int := ((if Go.bits .xor .u32 (Go.bits .and .u32 p.1 1) (Go.bits .and .u8 p.2 1 % 4294967296) = 1 then Go.bits .xor .u32 (p.1 / 2) 3988292384 else p.1 / 2), p.2 / 2)
def impl_crcMore.bits : Nat → Int × Int → Int × Int
  | 0, p => p
  | n + 1, p => impl_crcMore.bits n (impl_crcMore.bit p)
theorem impl_crcMore.bits_succ : ∀ (n : Nat) (p : Int × Int), impl_crcMore.bits (n + 1) p = impl_crcMore.bit (impl_crcMore.bits n p)
  | 0, p => rfl
  | n + 1, p => by rw [impl_crcMore.bits, impl_crcMore.bits_succ n]; rfl
def impl_crcMore.step (n c : Int) : Int := (impl_crcMore.bits 8 (n, c)).1
def impl_crcMore.go (x : Int) (l : List Int) : Int := l.foldl impl_crcMore.step x
def impl_crcMore.f (a0 : Int) (a1 : ByteArray) : Option Int := if a1.size ≤ 9223372036854775807 then some (impl_crcMore.not (impl_crcMore.go (impl_crcMore.not a0) (bytesOf a1))) else none
theorem impl_crcMore.snoc (x : Int) (l : List Int) (k : Nat) (h : k < l.length) : impl_crcMore.go x (l.take (k + 1)) = impl_crcMore.step (impl_crcMore.go x (l.take k)) (l.getD k 0) := by
  unfold impl_crcMore.go
  rw [List.take_succ_eq_append_getElem h, List.foldl_append, List.getD_eq_getElem?_getD, List.getElem?_eq_getElem h]; rfl
theorem impl_crcMore.ret {k : IntKind} {a b : Int} (h : a = b) : Ending.returned (.int k a) = .returned (.int k b) := by rw [h]
set_option maxHeartbeats 2000000 in
theorem impl_crcMore.calls (a0 : Int) (a1 : ByteArray) (r : Int) (w : World) (h : impl_crcMore.f a0 a1 = some r) :
    Calls Try.prog 83 #[.int .u32 a0, .string a1] w fun e w' => e = .returned (.int .u32 r) ∧ Below w.heap.size w w' := by
  unfold impl_crcMore.f at h
  by_cases hs : a1.size ≤ 9223372036854775807
  · rw [if_pos hs] at h
    obtain rfl := Option.some.inj h
    have kb := fun W => print_bytes (P := Try.prog) 9 83 5 Try.underlying9 Try.underlying83 Try.underlying5 a1 W
    have hl : (bytesOf a1).length = a1.size := bytesOf_length a1
    have hcell : ∀ j : Nat, j < a1.size → (Lib.bytesWorld w 5 a1).cell? ⟨w.heap.size, j, none⟩ = some (.int .u8 ((bytesOf a1).getD j 0)) := fun j hj => by
      obtain ⟨_, _, hr⟩ := bytes_reads w 5 a1 hs
      obtain ⟨ad, e, hc⟩ := hr (by omega)
      injection e with e
      subst e
      have := hc j hj
      rw [add_plain] at this
      exact this
    have hb : Below w.heap.size w (Lib.bytesWorld w 5 a1) := bytes_below (Below.refl _ _) (Nat.le_refl _) _ _
    have HB := Aside0.mk hb
    have HC := Aside0.mk hcell
    have HL := Aside0.mk hl
    clear hb hcell hl h
    go_enter Try.func83, Try.ntmps83
    go_wp2
    clear kb
    generalize hW : Lib.bytesWorld w 5 a1 = W at *
    clear hW
    go_loop [5, 7, 8, 14, 18] (fun n c b i q => ∃ k : Nat, k ≤ a1.size ∧ i = .int .i64 k ∧ n = .int .u32 (impl_crcMore.go (impl_crcMore.not a0) ((bytesOf a1).take k))) (fun _ _ _ i _ => a1.size - (intOf i).toNat)
    case atStart => exact ⟨0, Nat.zero_le _, rfl, rfl⟩
    case round =>
      rename_i uc ub uq
      obtain ⟨k, hk, rfl, rfl⟩ := hrel
      by_cases hlt : k < a1.size
      · have hc := HC.out k hlt
        have hsn := impl_crcMore.snoc (impl_crcMore.not a0) (bytesOf a1) k (by rw [HL.out]; exact hlt)
        have HS := Aside0.mk hsn
        clear hsn
        generalize impl_crcMore.go (impl_crcMore.not a0) ((bytesOf a1).take k) = z at *
        go_wp2
        have hgd : (bytesOf a1)[k]?.getD 0 = (bytesOf a1).getD k 0 := (List.getD_eq_getElem?_getD ..).symm
        rw [hgd]
        clear hgd hc
        generalize (bytesOf a1).getD k 0 = c0 at *
        go_loop [5, 7, 8, 18] (fun n c b q => ∃ j : Nat, j ≤ 8 ∧ q = .int .i64 j ∧ n = .int .u32 (impl_crcMore.bits j (z, c0)).1 ∧ c = .int .u8 (impl_crcMore.bits j (z, c0)).2) (fun _ _ _ q => 8 - (intOf q).toNat)
        case atStart => exact ⟨0, by omega, rfl, rfl, rfl⟩
        case round =>
          obtain ⟨j, hj, rfl, rfl, rfl⟩ := hrel
          by_cases hj8 : j < 8
          · have hbs := impl_crcMore.bits_succ j (z, c0)
            have HBS := Aside0.mk hbs
            clear hbs
            generalize impl_crcMore.bits j (z, c0) = p at *
            obtain ⟨p1, p2⟩ := p
            have hbit : (if Go.bits .xor .u32 (Go.bits .and .u32 p1 1) (Go.bits .and .u8 p2 1 % 4294967296) = 1 then Go.bits .xor .u32 (p1 / 2) 3988292384 else p1 / 2) = (impl_crcMore.bit (p1, p2)).1 := rfl
            have HBT := Aside0.mk hbit
            clear hbit
            by_cases hx : Go.bits .xor .u32 (Go.bits .and .u32 p1 1) (Go.bits .and .u8 p2 1 % 4294967296) = 1
            · have hx1 : (Go.bits .xor .u32 (Go.bits .and .u32 p1 1) (Go.bits .and .u8 p2 1 % 4294967296) == 1) = true := beq_iff_eq.mpr hx
              have HX := Aside0.mk hx
              clear hx
              go_wp2
              go_round
              case rel => exact ⟨j + 1, by omega, by go_num, by rw [HBS.out, ← HBT.out, if_pos HX.out], by rw [HBS.out]; rfl⟩
              case measure => simp [intOf]; omega
            · have hx1 : (Go.bits .xor .u32 (Go.bits .and .u32 p1 1) (Go.bits .and .u8 p2 1 % 4294967296) == 1) = false := beq_eq_false_iff_ne.mpr hx
              have HX := Aside0.mk hx
              clear hx
              go_wp2
              go_round
              case rel => exact ⟨j + 1, by omega, by go_num, by rw [HBS.out, ← HBT.out, if_neg HX.out], by rw [HBS.out]; rfl⟩
              case measure => simp [intOf]; omega
          · obtain rfl : j = 8 := by omega
            go_wp2
            go_round
            case rel => exact ⟨k + 1, by omega, by go_num, by rw [HS.out]; rfl⟩
            case measure => simp [intOf]; omega
      · go_wp2
        go_ret
        exact ⟨impl_crcMore.ret (by rw [List.take_of_length_le (by rw [HL.out]; omega)]; rfl), HB.out⟩
  · rw [if_neg hs] at h
    cases h


/-! ### impl_sealOf: function 71 -/
def impl_sealOf.f (a0 : ByteArray) : Option (ByteArray) := (impl_crcMore.f 0 a0).bind fun t148 => (some (strOfNums (([(t148) % 256, (t148 / 256) % 256, (t148 / 65536) % 256, (t148 / 16777216) % 256] : List Int))))
set_option maxHeartbeats 8000000 in
set_option maxRecDepth 100000 in
theorem impl_sealOf.calls (a0 : ByteArray) (r : ByteArray) (w : World) (h : impl_sealOf.f a0 = some r) :
    Calls Try.prog 71 #[.string a0] w fun e w' => e = .returned (.string r) ∧ Below w.heap.size w w' := by
  have HB := Aside0.mk (Below.refl w.heap.size w)
  have H : ((impl_crcMore.f 0 a0).bind fun t148 => (some (strOfNums (([(t148) % 256, (t148 / 256) % 256, (t148 / 65536) % 256, (t148 / 16777216) % 256] : List Int))))) = some r := h
  clear h
  replace H := Option.bind_eq_some_iff.mp H
  obtain ⟨t148, A20, H⟩ := H
  replace H : (some (strOfNums (([(t148) % 256, (t148 / 256) % 256, (t148 / 65536) % 256, (t148 / 16777216) % 256] : List Int)))) = some r := H
  have A2 := Aside0.mk A20
  clear A20
  obtain ⟨y149, hy149⟩ : ∃ y_ : List Int, y_ = (([(t148) % 256, (t148 / 256) % 256, (t148 / 65536) % 256, (t148 / 16777216) % 256] : List Int)) := ⟨_, rfl⟩
  replace H : (some (strOfNums y149)) = some r := by first | (rw [hy149]; with_reducible exact H) | (have H2_ := (Option.bind_some _ _).symm.trans H; rw [hy149]; with_reducible exact H2_) | (have H2_ := (Option.bind_some _ _).symm.trans H; with_reducible exact H2_) | with_reducible exact H | (rw [hy149]; exact H) | exact H
  have Ny149 := Aside0.mk hy149
  clear hy149
  obtain rfl := Option.some.inj H
  go_enter Try.func71, Try.ntmps71
  go_wp2_with (first | ((with_reducible refine gate_callee (f := 83) rfl ?_); refine goesL_ (some 5) rfl rfl Try.func83 (by kernel_rfl) rfl #[.int .u32 0, .string a0] rfl (by (try simp only [List.map_toArray, List.map_cons, List.map_nil]); first | done | rfl | (simp only [List.length_drop, List.length_take]; rfl)) ?_; (with_reducible refine (impl_crcMore.calls 0 a0 t148 _ A2.out).mono ?_); rintro e w3 ⟨rfl, hb⟩; refine ⟨_, rfl, ?_⟩; have n0_ := Aside0.mk (below_step (by repeat (first | (with_reducible first | exact HB.out | apply below_alloc | apply pw_below_drewN | apply below_drew1) | exact HB.out)) hb); clear HB; have HB := n0_; clear n0_; (try clear hb); (try clear hb2); (try clear hk); (try clear hi)) | ((with_reducible refine gate_dst (N := 17) rfl ?_); refine Kd.R_lit (Kd.int .u8) _ 5 ?hg (N := 17) ?hd (xs := ([(t148) % 256, (t148 / 256) % 256, (t148 / 65536) % 256, (t148 / 16777216) % 256] : List Int)) (inner := [.int .u8 ((t148) % 256), .int .u8 ((t148 / 256) % 256), .int .u8 ((t148 / 65536) % 256), .int .u8 ((t148 / 16777216) % 256)]) (ok := fun _ => True) (okp := fun _ => True) ?hr ?hp (fun _ hk => hk) trivial (Below.refl _ _) (Nat.le_refl _) (by simp) ?_; (case hd => rfl); (case hg => rfl); (case hr => first | (go_simp; done) | (go_simp; rfl)); (case hp => exact (Reps.one (show Kd.M (Kd.int .u8) _ _ _ ((t148) % 256) [.int .u8 ((t148) % 256)] from rfl) (Reps.one (show Kd.M (Kd.int .u8) _ _ _ ((t148 / 256) % 256) [.int .u8 ((t148 / 256) % 256)] from rfl) (Reps.one (show Kd.M (Kd.int .u8) _ _ _ ((t148 / 65536) % 256) [.int .u8 ((t148 / 65536) % 256)] from rfl) (Reps.one (show Kd.M (Kd.int .u8) _ _ _ ((t148 / 16777216) % 256) [.int .u8 ((t148 / 16777216) % 256)] from rfl) (Reps.none _ _)))))); intro v150 w4 ho5 hb hg_ hnew_; clear hg_ hnew_; (first | rw [← Ny149.out] at ho5 | (simp only [Int.reduceToNat] at ho5; rw [← Ny149.out] at ho5)); have n0_ := Aside0.mk (Kd.R_lower ho5 (below_size (by repeat (first | (with_reducible first | exact HB.out | apply below_alloc | apply pw_below_drewN | apply below_drew1) | exact HB.out)))); have n1_ := Aside0.mk (below_step (by repeat (first | (with_reducible first | exact HB.out | apply below_alloc | apply pw_below_drewN | apply below_drew1) | exact HB.out)) hb); clear HB; have HO151 := n0_; have HB := n1_; clear n0_ n1_; clear hb ho5; have hcv6 := own_string (P := Try.prog) Try.underlying83 Try.underlying5 Try.underlying9 (Kd.own_of_R HO151.out)))
  (try (unfold Instr.field; go_simp; unfold asAgg; go_simp; go_wp2))
  go_ret
  exact ⟨by first | rfl | (simp [errW_none, errW_some] <;> rfl) | (simp [*, errW_none, errW_some] <;> rfl), by repeat (first | (with_reducible first | exact HB.out | apply below_alloc | apply pw_below_drewN | apply below_drew1) | exact HB.out)⟩

/-! ### impl_Unseal: function 40 -/
def impl_Unseal.f (a0 : ByteArray) : Option (ByteArray × Int × Int) := (impl_isLong.f a0).bind fun t153 => (if t153 = true then (some ((⟨#[]⟩ : ByteArray), 0, 2)) else (if (wrap64 ((a0.size : Int) - 4)) < 0 then (some ((⟨#[]⟩ : ByteArray), 0, 4)) else (if 0 ≤ (wrap64 ((a0.size : Int) - 4)) then (if (wrap64 ((a0.size : Int) - 4)) ≤ (a0.size : Int) then ((impl_sealOf.f (a0.extract 0 ((wrap64 ((a0.size : Int) - 4)) : Int).toNat)).bind fun t154 => (if t154.toList = (a0.extract ((wrap64 ((a0.size : Int) - 4)) : Int).toNat a0.size).toList then (some (a0.extract 0 ((wrap64 ((a0.size : Int) - 4)) : Int).toNat, 0, 0)) else (some ((⟨#[]⟩ : ByteArray), 0, 5)))) else (none)) else (none))))
def impl_Unseal.T6 : Bool × List (List Nat × List Nat) := (true, [([], []), ([], []), ([0, 1], [0, 1]), ([2], [2]), ([], []), ([], []), ([4, 5], [4, 5]), ([3, 6], [3, 6]), ([7, 3], [7])])
def impl_Unseal.B6 : List Nat := [0, 0, 3, 7, 0, 0, 48, 127, 255]
theorem impl_Unseal.tab6 : rtab .any (opsOf Try.f40 6) = impl_Unseal.T6 := by kernel_rfl
theorem impl_Unseal.bits6 : waitsOk impl_Unseal.T6.2 impl_Unseal.B6 = true := by kernel_rfl
set_option maxHeartbeats 8000000 in
set_option maxRecDepth 100000 in
theorem impl_Unseal.calls (a0 : ByteArray) (r1 : ByteArray) (r2 : Int) (r3 : Int) (w : World) (h : impl_Unseal.f a0 = some (r1, r2, r3)) :
    Calls Try.prog 40 #[.string a0] w fun e w' => e = .returned (.agg #[.string r1, .int .i64 r2, .int .i64 r3]) ∧ Below w.heap.size w w' := by
  have hu68 := Try.underlying68
  have HB := Aside0.mk (Below.refl w.heap.size w)
  have H : ((impl_isLong.f a0).bind fun t153 => (if t153 = true then (some ((⟨#[]⟩ : ByteArray), 0, 2)) else (if (wrap64 ((a0.size : Int) - 4)) < 0 then (some ((⟨#[]⟩ : ByteArray), 0, 4)) else (if 0 ≤ (wrap64 ((a0.size : Int) - 4)) then (if (wrap64 ((a0.size : Int) - 4)) ≤ (a0.size : Int) then ((impl_sealOf.f (a0.extract 0 ((wrap64 ((a0.size : Int) - 4)) : Int).toNat)).bind fun t154 => (if t154.toList = (a0.extract ((wrap64 ((a0.size : Int) - 4)) : Int).toNat a0.size).toList then (some (a0.extract 0 ((wrap64 ((a0.size : Int) - 4)) : Int).toNat, 0, 0)) else (some ((⟨#[]⟩ : ByteArray), 0, 5)))) else (none)) else (none))))) = some (r1, r2, r3) := h
  clear h
  replace H := Option.bind_eq_some_iff.mp H
  obtain ⟨t153, A20, H⟩ := H
  replace H : (if t153 = true then (some ((⟨#[]⟩ : ByteArray), 0, 2)) else (if (wrap64 ((a0.size : Int) - 4)) < 0 then (some ((⟨#[]⟩ : ByteArray), 0, 4)) else (if 0 ≤ (wrap64 ((a0.size : Int) - 4)) then (if (wrap64 ((a0.size : Int) - 4)) ≤ (a0.size : Int) then ((impl_sealOf.f (a0.extract 0 ((wrap64 ((a0.size : Int) - 4)) : Int).toNat)).bind fun t154 => (if t154.toList = (a0.extract ((wrap64 ((a0.size : Int) - 4)) : Int).toNat a0.size).toList then (some (a0.extract 0 ((wrap64 ((a0.size : Int) - 4)) : Int).toNat, 0, 0)) else (some ((⟨#[]⟩ : ByteArray), 0, 5)))) else (none)) else (none)))) = some (r1, r2, r3) := H
  have A2 := Aside0.mk A20
  clear A20
  by_cases c3 : t153 = true
  · subst c3
    have H1 : (some ((⟨#[]⟩ : ByteArray), 0, 2)) = some (r1, r2, r3) := by rw [if_pos rfl] at H; exact H
    clear H
    have H := H1
    clear H1
    simp only [Option.some.injEq, Prod.mk.injEq] at H
    obtain ⟨rfl, rfl, rfl⟩ := H
    go_enter Try.func40, Try.ntmps40
    go_wp2_with (first | ((with_reducible refine gate_dst (N := 2) rfl ?_); refine box_event ?hg (N := 2) ?hd (cs := #[.string (⟨#[]⟩ : ByteArray), .int .i64 0, .int .i64 0]) (t := 68) ?hr ?_; (case hd => rfl); (case hg => rfl); (case hr => first | (go_simp; done) | (go_simp; rfl)); intro gb152 hg w4 hbox hb; have n0_ := Aside0.mk (below_step (by repeat (first | (with_reducible first | exact HB.out | apply below_alloc | apply pw_below_drewN | apply below_drew1) | exact HB.out)) hb); have n1_ := Aside0.mk (hbox); have n2_ := Aside0.mk ((by rw [hg]; exact (below_size (by repeat (first | (with_reducible first | exact HB.out | apply below_alloc | apply pw_below_drewN | apply below_drew1) | exact HB.out))) : w.heap.size ≤ gb152)); have n3_ := Aside0.mk ((by rw [hg]; exact (below_size (by repeat (first | (with_reducible first | exact HB.out | apply below_alloc | apply pw_below_drewN | apply below_drew1) | exact HB.out))) : w.heap.size ≤ gb152)); clear HB; have HB := n0_; have BK152 := n1_; have GW152 := n2_; have GE152 := n3_; clear n0_ n1_ n2_ n3_; clear hb hbox hg) | ((with_reducible refine gate_callee (f := 27) rfl ?_); refine goesL_ (some 9) rfl rfl Try.func27 (by kernel_rfl) rfl #[.string a0] rfl (by (try simp only [List.map_toArray, List.map_cons, List.map_nil]); first | done | rfl | (simp only [List.length_drop, List.length_take]; rfl)) ?_; (with_reducible refine (impl_isLong.calls a0 true _ A2.out).mono ?_); rintro e w' ⟨rfl, ⟨nd, rfl⟩⟩; refine ⟨_, rfl, ?_⟩; (try (rw [drewN_self w4]; generalize hq_ : World.drewN w4 _ = w4; have n0_ : Aside0 (w4.heap[gb152]? = some (.cells #[.string (⟨#[]⟩ : ByteArray), .int .i64 0, .int .i64 0] 68 (0, 0))) := ⟨by rw [← hq_]; exact (by (with_reducible repeat (first | refine blk_drewN ?_ _ | refine blk_drew ?_ | refine blk_alloc ?_ _)); exact BK152.out)⟩; have n1_ : Aside0 (Below w.heap.size w w4) := ⟨by rw [← hq_]; exact (by repeat (first | (with_reducible first | exact HB.out | apply below_alloc | apply pw_below_drewN | apply below_drew1 | refine below_set ?_ GE152.out) | exact HB.out))⟩; clear BK152 HB hq_; have BK152 := n0_; have HB := n1_; clear n0_ n1_)); have hcz5_0 : w4.cell? ⟨gb152, 0, none⟩ = some (.string (⟨#[]⟩ : ByteArray)) := (blk_cell BK152.out 0).trans rfl; have hcz5_1 : w4.cell? ⟨gb152, 1, none⟩ = some (.int .i64 0) := (blk_cell BK152.out 1).trans rfl; have hcz5_2 : w4.cell? ⟨gb152, 2, none⟩ = some (.int .i64 0) := (blk_cell BK152.out 2).trans rfl; have hfz5_0 := blk_frozen BK152.out 0; have hfz5_1 := blk_frozen BK152.out 1; have hfz5_2 := blk_frozen BK152.out 2))
    (try (unfold Instr.field; go_simp; unfold asAgg; go_simp; go_wp2))
    refine bodyPost_ret (results_cell_row rfl _ _ gb152 68 #[.string (⟨#[]⟩ : ByteArray), .int .i64 0, .int .i64 2] (0, 0) _ rfl (by (with_reducible repeat (first | refine blk_drewN ?_ _ | refine blk_drew ?_ | refine blk_alloc ?_ _)); refine blk_put (cs := #[.string (⟨#[]⟩ : ByteArray), .int .i64 0, .int .i64 0]) ?_ 2 _ (by first | rfl | (subst_vars; rfl)); (with_reducible repeat (first | refine blk_drewN ?_ _ | refine blk_drew ?_ | refine blk_alloc ?_ _)); refine blk_put (cs := #[.string (⟨#[]⟩ : ByteArray), .int .i64 0, .int .i64 0]) ?_ 1 _ (by first | rfl | (subst_vars; rfl)); (with_reducible repeat (first | refine blk_drewN ?_ _ | refine blk_drew ?_ | refine blk_alloc ?_ _)); refine blk_put (cs := #[.string (⟨#[]⟩ : ByteArray), .int .i64 0, .int .i64 0]) ?_ 0 _ (by first | rfl | (subst_vars; rfl)); (with_reducible repeat (first | refine blk_drewN ?_ _ | refine blk_drew ?_ | refine blk_alloc ?_ _)); exact BK152.out) Try.underlying68 rfl (by kernel_rfl)) rfl ?_
    exact ⟨by first | rfl | (simp [errW_none, errW_some] <;> rfl) | (simp [*, errW_none, errW_some] <;> rfl), by repeat (first | (with_reducible first | exact HB.out | apply below_alloc | apply pw_below_drewN | apply below_drew1 | refine below_set ?_ GE152.out) | exact HB.out)⟩
  · replace c3 := Bool.eq_false_iff.mpr c3
    subst c3
    have H1 : (if (wrap64 ((a0.size : Int) - 4)) < 0 then (some ((⟨#[]⟩ : ByteArray), 0, 4)) else (if 0 ≤ (wrap64 ((a0.size : Int) - 4)) then (if (wrap64 ((a0.size : Int) - 4)) ≤ (a0.size : Int) then ((impl_sealOf.f (a0.extract 0 ((wrap64 ((a0.size : Int) - 4)) : Int).toNat)).bind fun t154 => (if t154.toList = (a0.extract ((wrap64 ((a0.size : Int) - 4)) : Int).toNat a0.size).toList then (some (a0.extract 0 ((wrap64 ((a0.size : Int) - 4)) : Int).toNat, 0, 0)) else (some ((⟨#[]⟩ : ByteArray), 0, 5)))) else (none)) else (none))) = some (r1, r2, r3) := by rw [if_neg (show ¬ (false = true) by decide)] at H; exact H
    clear H
    have H := H1
    clear H1
    by_cases c6 : (wrap64 ((a0.size : Int) - 4)) < 0
    · rw [if_pos c6] at H
      have c6b0 : decide ((wrap64 ((a0.size : Int) - 4)) < 0) = true := decide_eq_true c6
      clear c6
      simp only [Option.some.injEq, Prod.mk.injEq] at H
      obtain ⟨rfl, rfl, rfl⟩ := H
      go_enter Try.func40, Try.ntmps40
      go_wp2_with (first | ((with_reducible refine gate_dst (N := 2) rfl ?_); refine box_event ?hg (N := 2) ?hd (cs := #[.string (⟨#[]⟩ : ByteArray), .int .i64 0, .int .i64 0]) (t := 68) ?hr ?_; (case hd => rfl); (case hg => rfl); (case hr => first | (go_simp; done) | (go_simp; rfl)); intro gb152 hg w7 hbox hb; have n0_ := Aside0.mk (below_step (by repeat (first | (with_reducible first | exact HB.out | apply below_alloc | apply pw_below_drewN | apply below_drew1) | exact HB.out)) hb); have n1_ := Aside0.mk (hbox); have n2_ := Aside0.mk ((by rw [hg]; exact (below_size (by repeat (first | (with_reducible first | exact HB.out | apply below_alloc | apply pw_below_drewN | apply below_drew1) | exact HB.out))) : w.heap.size ≤ gb152)); have n3_ := Aside0.mk ((by rw [hg]; exact (below_size (by repeat (first | (with_reducible first | exact HB.out | apply below_alloc | apply pw_below_drewN | apply below_drew1) | exact HB.out))) : w.heap.size ≤ gb152)); clear HB; have HB := n0_; have BK152 := n1_; have GW152 := n2_; have GE152 := n3_; clear n0_ n1_ n2_ n3_; clear hb hbox hg) | ((with_reducible refine gate_callee (f := 27) rfl ?_); refine goesL_ (some 9) rfl rfl Try.func27 (by kernel_rfl) rfl #[.string a0] rfl (by (try simp only [List.map_toArray, List.map_cons, List.map_nil]); first | done | rfl | (simp only [List.length_drop, List.length_take]; rfl)) ?_; (with_reducible refine (impl_isLong.calls a0 false _ A2.out).mono ?_); rintro e w' ⟨rfl, ⟨nd, rfl⟩⟩; refine ⟨_, rfl, ?_⟩; (try (rw [drewN_self w7]; generalize hq_ : World.drewN w7 _ = w7; have n0_ : Aside0 (w7.heap[gb152]? = some (.cells #[.string (⟨#[]⟩ : ByteArray), .int .i64 0, .int .i64 0] 68 (0, 0))) := ⟨by rw [← hq_]; exact (by (with_reducible repeat (first | refine blk_drewN ?_ _ | refine blk_drew ?_ | refine blk_alloc ?_ _)); exact BK152.out)⟩; have n1_ : Aside0 (Below w.heap.size w w7) := ⟨by rw [← hq_]; exact (by repeat (first | (with_reducible first | exact HB.out | apply below_alloc | apply pw_below_drewN | apply below_drew1 | refine below_set ?_ GE152.out) | exact HB.out))⟩; clear BK152 HB hq_; have BK152 := n0_; have HB := n1_; clear n0_ n1_)); have hcz8_0 : w7.cell? ⟨gb152, 0, none⟩ = some (.string (⟨#[]⟩ : ByteArray)) := (blk_cell BK152.out 0).trans rfl; have hcz8_1 : w7.cell? ⟨gb152, 1, none⟩ = some (.int .i64 0) := (blk_cell BK152.out 1).trans rfl; have hcz8_2 : w7.cell? ⟨gb152, 2, none⟩ = some (.int .i64 0) := (blk_cell BK152.out 2).trans rfl; have hfz8_0 := blk_frozen BK152.out 0; have hfz8_1 := blk_frozen BK152.out 1; have hfz8_2 := blk_frozen BK152.out 2))
      (try (unfold Instr.field; go_simp; unfold asAgg; go_simp; go_wp2))
      refine bodyPost_ret (results_cell_row rfl _ _ gb152 68 #[.string (⟨#[]⟩ : ByteArray), .int .i64 0, .int .i64 4] (0, 0) _ rfl (by (with_reducible repeat (first | refine blk_drewN ?_ _ | refine blk_drew ?_ | refine blk_alloc ?_ _)); refine blk_put (cs := #[.string (⟨#[]⟩ : ByteArray), .int .i64 0, .int .i64 0]) ?_ 2 _ (by first | rfl | (subst_vars; rfl)); (with_reducible repeat (first | refine blk_drewN ?_ _ | refine blk_drew ?_ | refine blk_alloc ?_ _)); refine blk_put (cs := #[.string (⟨#[]⟩ : ByteArray), .int .i64 0, .int .i64 0]) ?_ 1 _ (by first | rfl | (subst_vars; rfl)); (with_reducible repeat (first | refine blk_drewN ?_ _ | refine blk_drew ?_ | refine blk_alloc ?_ _)); refine blk_put (cs := #[.string (⟨#[]⟩ : ByteArray), .int .i64 0, .int .i64 0]) ?_ 0 _ (by first | rfl | (subst_vars; rfl)); (with_reducible repeat (first | refine blk_drewN ?_ _ | refine blk_drew ?_ | refine blk_alloc ?_ _)); exact BK152.out) Try.underlying68 rfl (by kernel_rfl)) rfl ?_
      exact ⟨by first | rfl | (simp [errW_none, errW_some] <;> rfl) | (simp [*, errW_none, errW_some] <;> rfl), by repeat (first | (with_reducible first | exact HB.out | apply below_alloc | apply pw_below_drewN | apply below_drew1 | refine below_set ?_ GE152.out) | exact HB.out)⟩
    · rw [if_neg c6] at H
      have c6b0 : decide ((wrap64 ((a0.size : Int) - 4)) < 0) = false := decide_eq_false c6
      clear c6
      obtain ⟨ji9, hji9⟩ : ∃ j_ : Int, (wrap64 ((a0.size : Int) - 4)) = j_ := ⟨_, rfl⟩
      replace H : (if 0 ≤ (ji9) then (if (ji9) ≤ (a0.size : Int) then ((impl_sealOf.f (a0.extract 0 ((ji9) : Int).toNat)).bind fun t154 => (if t154.toList = (a0.extract ((ji9) : Int).toNat a0.size).toList then (some (a0.extract 0 ((ji9) : Int).toNat, 0, 0)) else (some ((⟨#[]⟩ : ByteArray), 0, 5)))) else (none)) else (none)) = some (r1, r2, r3) := by first | (rw [hji9] at H; exact H) | (simp only [hji9] at H ⊢; exact H)
      (try rw [hji9] at c6b0)
      (try rw [hji9] at A2)
      have hji9w : (IntKind.i64.wrap ((a0.size : Int) - 4)) = ji9 := (i64_w _).trans hji9
      by_cases c10 : 0 ≤ (ji9)
      · rw [if_pos c10] at H
        have c10b0 := eq_true c10
        have c10b1 : decide (0 ≤ (ji9)) = true := decide_eq_true c10
        clear c10
        by_cases c11 : (ji9) ≤ (a0.size : Int)
        · rw [if_pos c11] at H
          have c11b0 := eq_true c11
          have c11b1 : decide ((ji9) ≤ (a0.size : Int)) = true := decide_eq_true c11
          clear c11
          replace H := Option.bind_eq_some_iff.mp H
          obtain ⟨t154, A120, H⟩ := H
          replace H : (if t154.toList = (a0.extract ((ji9) : Int).toNat a0.size).toList then (some (a0.extract 0 ((ji9) : Int).toNat, 0, 0)) else (some ((⟨#[]⟩ : ByteArray), 0, 5))) = some (r1, r2, r3) := H
          have A12 := Aside0.mk A120
          clear A120
          have c13b0 := eq_true (of_decide_eq_true (by first | (with_reducible assumption) | assumption) : 0 ≤ (ji9))
          have c14b0 := eq_true (of_decide_eq_true (by first | (with_reducible assumption) | assumption) : (ji9) ≤ (a0.size : Int))
          by_cases c15 : t154.toList = (a0.extract ((ji9) : Int).toNat a0.size).toList
          · rw [if_pos c15] at H
            have c15b0 : (t154.toList == (a0.extract ((ji9) : Int).toNat a0.size).toList) = true := beq_iff_eq.mpr c15
            have c15b1 : (t154.toList != (a0.extract ((ji9) : Int).toNat a0.size).toList) = false := bne_eq_false_iff_eq.mpr c15
            clear c15
            have c16b0 := eq_true (of_decide_eq_true (by first | (with_reducible assumption) | assumption) : 0 ≤ (ji9))
            have c17b0 := eq_true (of_decide_eq_true (by first | (with_reducible assumption) | assumption) : (ji9) ≤ (a0.size : Int))
            simp only [Option.some.injEq, Prod.mk.injEq] at H
            obtain ⟨rfl, rfl, rfl⟩ := H
            go_enter Try.func40, Try.ntmps40
            try go_wp2_with (first | ((with_reducible refine gate_dst (N := 2) rfl ?_); refine box_event ?hg (N := 2) ?hd (cs := #[.string (⟨#[]⟩ : ByteArray), .int .i64 0, .int .i64 0]) (t := 68) ?hr ?_; (case hd => rfl); (case hg => rfl); (case hr => first | (go_simp; done) | (go_simp; rfl)); intro gb152 hg w18 hbox hb; have n0_ := Aside0.mk (below_step (by repeat (first | (with_reducible first | exact HB.out | apply below_alloc | apply pw_below_drewN | apply below_drew1) | exact HB.out)) hb); have n1_ := Aside0.mk (hbox); have n2_ := Aside0.mk ((by rw [hg]; exact (below_size (by repeat (first | (with_reducible first | exact HB.out | apply below_alloc | apply pw_below_drewN | apply below_drew1) | exact HB.out))) : w.heap.size ≤ gb152)); have n3_ := Aside0.mk ((by rw [hg]; exact (below_size (by repeat (first | (with_reducible first | exact HB.out | apply below_alloc | apply pw_below_drewN | apply below_drew1) | exact HB.out))) : w.heap.size ≤ gb152)); clear HB; have HB := n0_; have BK152 := n1_; have GW152 := n2_; have GE152 := n3_; clear n0_ n1_ n2_ n3_; clear hb hbox hg) | ((with_reducible refine gate_callee (f := 27) rfl ?_); refine goesL_ (some 9) rfl rfl Try.func27 (by kernel_rfl) rfl #[.string a0] rfl (by (try simp only [List.map_toArray, List.map_cons, List.map_nil]); first | done | rfl | (simp only [List.length_drop, List.length_take]; rfl)) ?_; (with_reducible refine (impl_isLong.calls a0 false _ A2.out).mono ?_); rintro e w' ⟨rfl, ⟨nd, rfl⟩⟩; refine ⟨_, rfl, ?_⟩; (try (rw [drewN_self w18]; generalize hq_ : World.drewN w18 _ = w18; have n0_ : Aside0 (w18.heap[gb152]? = some (.cells #[.string (⟨#[]⟩ : ByteArray), .int .i64 0, .int .i64 0] 68 (0, 0))) := ⟨by rw [← hq_]; exact (by (with_reducible repeat (first | refine blk_drewN ?_ _ | refine blk_drew ?_ | refine blk_alloc ?_ _)); exact BK152.out)⟩; have n1_ : Aside0 (Below w.heap.size w w18) := ⟨by rw [← hq_]; exact (by repeat (first | (with_reducible first | exact HB.out | apply below_alloc | apply pw_below_drewN | apply below_drew1 | refine below_set ?_ GE152.out) | exact HB.out))⟩; clear BK152 HB hq_; have BK152 := n0_; have HB := n1_; clear n0_ n1_))))
            have n0_ := Aside0.mk (blk_drew BK152.out)
            have n1_ := Aside0.mk (below_drew1 HB.out)
            clear BK152
            clear HB
            have BK152 := n0_
            have HB := n1_
            clear n0_ n1_
            refine start_ (n := 9) (S := fun w' => True) (ds := []) #[false, false, false, false, false, false, false, false, false] (by kernel_rfl) rfl rfl trivial (fun hHeld => ?_); refine with_tabW impl_Unseal.tab6 impl_Unseal.bits6 (fun HT_ HW_ => ?_)
            generalize w18.drew = w19 at BK152 HB hHeld ⊢
            refine pure_ (i := 0) (N := some 16) (v := ?_) (a' := ?_) #[true, false, false, false, false, false, false, false, false] rfl rfl (any_of HT_.out (by kernel_rfl)) (fun _ _ _ h => h) (Or.inl ⟨by rfl, ?_⟩) ?_ ?_
            rotate_left
            · intro w'
              go_simp
              with_reducible rfl
            rotate_left
            · simp only [Act.put, List.setIfInBounds_toArray, List.set_cons_zero, List.set_cons_succ, i64_w, i32_w]
              rfl
            refine pure_ (i := 1) (N := some 17) (v := ?_) (a' := ?_) #[true, true, false, false, false, false, false, false, false] rfl rfl (any_of HT_.out (by kernel_rfl)) (fun _ _ _ h => h) (Or.inl ⟨by rfl, ?_⟩) ?_ ?_
            rotate_left
            · intro w'
              go_simp
              with_reducible rfl
            rotate_left
            · simp only [Act.put, List.setIfInBounds_toArray, List.set_cons_zero, List.set_cons_succ, i64_w, i32_w]
              rfl
            refine pure_ (i := 2) (N := some 18) (v := ?_) (a' := ?_) #[true, true, true, false, false, false, false, false, false] rfl rfl (any_of HT_.out (by kernel_rfl)) (fun _ _ _ h => h) (Or.inl ⟨by rfl, ?_⟩) ?_ ?_
            rotate_left
            · intro w'
              go_simp
              with_reducible rfl
            rotate_left
            · simp only [Act.put, List.setIfInBounds_toArray, List.set_cons_zero, List.set_cons_succ, i64_w, i32_w]
              rfl
            refine pure_ (i := 4) (N := some 20) (v := ?_) (a' := ?_) #[true, true, true, false, true, false, false, false, false] rfl rfl (any_of HT_.out (by kernel_rfl)) (fun _ _ _ h => h) (Or.inl ⟨by rfl, ?_⟩) ?_ ?_
            rotate_left
            · intro w'
              go_simp
              with_reducible rfl
            rotate_left
            · simp only [Act.put, List.setIfInBounds_toArray, List.set_cons_zero, List.set_cons_succ, i64_w, i32_w]
              rfl
            refine pure_ (i := 5) (N := some 21) (v := ?_) (a' := ?_) #[true, true, true, false, true, true, false, false, false] rfl rfl (any_of HT_.out (by kernel_rfl)) (fun _ _ _ h => h) (Or.inl ⟨by rfl, ?_⟩) ?_ ?_
            rotate_left
            · intro w'
              go_simp
              with_reducible rfl
            rotate_left
            · simp only [Act.put, List.setIfInBounds_toArray, List.set_cons_zero, List.set_cons_succ, i64_w, i32_w]
              rfl
            refine pure_ (i := 6) (N := some 22) (v := ?_) (a' := ?_) #[true, true, true, false, true, true, true, false, false] rfl rfl (any_of HT_.out (by kernel_rfl)) (fun _ _ _ h => h) (Or.inl ⟨by rfl, ?_⟩) ?_ ?_
            rotate_left
            · intro w'
              go_simp
              with_reducible rfl
            rotate_left
            · simp only [Act.put, List.setIfInBounds_toArray, List.set_cons_zero, List.set_cons_succ, i64_w, i32_w]
              rfl
            refine one_ (i := 3) (N := some 19) #[true, true, true, true, true, true, true, false, false] rfl rfl (one_of HT_.out (by kernel_rfl)) (by decide) (fun K hK => ?_)
            refine goes_ Try.func71 (by kernel_rfl) rfl #[.string (a0.extract 0 ((ji9) : Int).toNat)] (by rfl) rfl rfl (by (try simp only [List.map_toArray, List.map_cons, List.map_nil]); first | done | (simp only [hji9]; rfl) | rfl | (simp only [List.length_drop, List.length_take]; rfl)) ?_
            with_reducible refine (impl_sealOf.calls (a0.extract 0 ((ji9) : Int).toNat) t154 _ A12.out).mono ?_
            rintro e w20 ⟨rfl, hb⟩
            refine ⟨_, rfl, ?_⟩
            have n0_ := Aside0.mk (blk_below (g := gb152) (o := .cells #[.string (⟨#[]⟩ : ByteArray), .int .i64 0, .int .i64 0] 68 (0, 0)) (by (with_reducible repeat (first | refine blk_drewN ?_ _ | refine blk_drew ?_ | refine blk_alloc ?_ _)); exact BK152.out) hb)
            have n1_ := Aside0.mk (below_step (by repeat (first | (with_reducible first | exact HB.out | apply below_alloc | apply pw_below_drewN | apply below_drew1 | refine below_set ?_ GE152.out) | exact HB.out)) hb)
            clear BK152
            clear HB
            have BK152 := n0_
            have HB := n1_
            clear n0_ n1_
            (try clear hb)
            (try clear hb2)
            (try clear hk)
            (try clear hi)
            refine hK.out _ _ trivial (fun hHeld => ?_)
            clear hK K
            refine norm_ (a' := ?_) ?_ ?_
            rotate_left
            · show Act.put _ (some 19) _ = _
              simp only [Act.put, List.setIfInBounds_toArray, List.set_cons_zero, List.set_cons_succ, i64_w, i32_w]
              rfl
            refine pure_ (i := 7) (N := some 23) (v := ?_) (a' := ?_) #[true, true, true, true, true, true, true, true, false] rfl rfl (any_of HT_.out (by kernel_rfl)) (fun _ _ _ h => h) (Or.inl ⟨by rfl, ?_⟩) ?_ ?_
            rotate_left
            · intro w'
              go_simp
              with_reducible rfl
            rotate_left
            · simp only [Act.put, List.setIfInBounds_toArray, List.set_cons_zero, List.set_cons_succ, i64_w, i32_w]
              rfl
            refine pure_ (i := 8) (N := some 15) (v := ?_) (a' := ?_) #[true, true, true, true, true, true, true, true, true] rfl rfl (any_of HT_.out (by kernel_rfl)) (fun _ _ _ h => h) (Or.inl ⟨by rfl, ?_⟩) ?_ ?_
            rotate_left
            · intro w'
              go_simp
              with_reducible rfl
            rotate_left
            · simp only [Act.put, List.setIfInBounds_toArray, List.set_cons_zero, List.set_cons_succ, i64_w, i32_w]
              rfl
            refine done_ (done_of HT_.out (by kernel_rfl)) ?_
            have hcz21_0 : w20.cell? ⟨gb152, 0, none⟩ = some (.string (⟨#[]⟩ : ByteArray)) := (blk_cell BK152.out 0).trans rfl
            have hcz21_1 : w20.cell? ⟨gb152, 1, none⟩ = some (.int .i64 0) := (blk_cell BK152.out 1).trans rfl
            have hcz21_2 : w20.cell? ⟨gb152, 2, none⟩ = some (.int .i64 0) := (blk_cell BK152.out 2).trans rfl
            have hfz21_0 := blk_frozen BK152.out 0
            have hfz21_1 := blk_frozen BK152.out 1
            have hfz21_2 := blk_frozen BK152.out 2
            try go_wp2
            refine bodyPost_ret (results_cell_row rfl _ _ gb152 68 #[.string (a0.extract 0 ((ji9) : Int).toNat), .int .i64 0, .int .i64 0] (0, 0) _ rfl (by (with_reducible repeat (first | refine blk_drewN ?_ _ | refine blk_drew ?_ | refine blk_alloc ?_ _)); refine blk_put (cs := #[.string (a0.extract 0 ((ji9) : Int).toNat), .int .i64 0, .int .i64 0]) ?_ 2 _ (by first | rfl | (subst_vars; rfl)); (with_reducible repeat (first | refine blk_drewN ?_ _ | refine blk_drew ?_ | refine blk_alloc ?_ _)); refine blk_put (cs := #[.string (a0.extract 0 ((ji9) : Int).toNat), .int .i64 0, .int .i64 0]) ?_ 1 _ (by first | rfl | (subst_vars; rfl)); (with_reducible repeat (first | refine blk_drewN ?_ _ | refine blk_drew ?_ | refine blk_alloc ?_ _)); refine blk_put (cs := #[.string (⟨#[]⟩ : ByteArray), .int .i64 0, .int .i64 0]) ?_ 0 _ (by first | rfl | (subst_vars; rfl)); (with_reducible repeat (first | refine blk_drewN ?_ _ | refine blk_drew ?_ | refine blk_alloc ?_ _)); exact BK152.out) Try.underlying68 rfl (by kernel_rfl)) rfl ?_
            exact ⟨by first | rfl | (simp [errW_none, errW_some] <;> rfl) | (simp only [← hji9]; first | rfl | (simp [errW_none, errW_some] <;> rfl)) | (simp [*, errW_none, errW_some] <;> rfl), by repeat (first | (with_reducible first | exact HB.out | apply below_alloc | apply pw_below_drewN | apply below_drew1 | refine below_set ?_ GE152.out) | exact HB.out)⟩
          · rw [if_neg c15] at H
            have c15b0 : (t154.toList == (a0.extract ((ji9) : Int).toNat a0.size).toList) = false := beq_eq_false_iff_ne.mpr c15
            have c15b1 : (t154.toList != (a0.extract ((ji9) : Int).toNat a0.size).toList) = true := bne_iff_ne.mpr c15
            simp only [Option.some.injEq, Prod.mk.injEq] at H
            obtain ⟨rfl, rfl, rfl⟩ := H
            go_enter Try.func40, Try.ntmps40
            try go_wp2_with (first | ((with_reducible refine gate_dst (N := 2) rfl ?_); refine box_event ?hg (N := 2) ?hd (cs := #[.string (⟨#[]⟩ : ByteArray), .int .i64 0, .int .i64 0]) (t := 68) ?hr ?_; (case hd => rfl); (case hg => rfl); (case hr => first | (go_simp; done) | (go_simp; rfl)); intro gb152 hg w22 hbox hb; have n0_ := Aside0.mk (below_step (by repeat (first | (with_reducible first | exact HB.out | apply below_alloc | apply pw_below_drewN | apply below_drew1) | exact HB.out)) hb); have n1_ := Aside0.mk (hbox); have n2_ := Aside0.mk ((by rw [hg]; exact (below_size (by repeat (first | (with_reducible first | exact HB.out | apply below_alloc | apply pw_below_drewN | apply below_drew1) | exact HB.out))) : w.heap.size ≤ gb152)); have n3_ := Aside0.mk ((by rw [hg]; exact (below_size (by repeat (first | (with_reducible first | exact HB.out | apply below_alloc | apply pw_below_drewN | apply below_drew1) | exact HB.out))) : w.heap.size ≤ gb152)); clear HB; have HB := n0_; have BK152 := n1_; have GW152 := n2_; have GE152 := n3_; clear n0_ n1_ n2_ n3_; clear hb hbox hg) | ((with_reducible refine gate_callee (f := 27) rfl ?_); refine goesL_ (some 9) rfl rfl Try.func27 (by kernel_rfl) rfl #[.string a0] rfl (by (try simp only [List.map_toArray, List.map_cons, List.map_nil]); first | done | rfl | (simp only [List.length_drop, List.length_take]; rfl)) ?_; (with_reducible refine (impl_isLong.calls a0 false _ A2.out).mono ?_); rintro e w' ⟨rfl, ⟨nd, rfl⟩⟩; refine ⟨_, rfl, ?_⟩; (try (rw [drewN_self w22]; generalize hq_ : World.drewN w22 _ = w22; have n0_ : Aside0 (w22.heap[gb152]? = some (.cells #[.string (⟨#[]⟩ : ByteArray), .int .i64 0, .int .i64 0] 68 (0, 0))) := ⟨by rw [← hq_]; exact (by (with_reducible repeat (first | refine blk_drewN ?_ _ | refine blk_drew ?_ | refine blk_alloc ?_ _)); exact BK152.out)⟩; have n1_ : Aside0 (Below w.heap.size w w22) := ⟨by rw [← hq_]; exact (by repeat (first | (with_reducible first | exact HB.out | apply below_alloc | apply pw_below_drewN | apply below_drew1 | refine below_set ?_ GE152.out) | exact HB.out))⟩; clear BK152 HB hq_; have BK152 := n0_; have HB := n1_; clear n0_ n1_))))
            have n0_ := Aside0.mk (blk_drew BK152.out)
            have n1_ := Aside0.mk (below_drew1 HB.out)
            clear BK152
            clear HB
            have BK152 := n0_
            have HB := n1_
            clear n0_ n1_
            refine start_ (n := 9) (S := fun w' => True) (ds := []) #[false, false, false, false, false, false, false, false, false] (by kernel_rfl) rfl rfl trivial (fun hHeld => ?_); refine with_tabW impl_Unseal.tab6 impl_Unseal.bits6 (fun HT_ HW_ => ?_)
            generalize w22.drew = w23 at BK152 HB hHeld ⊢
            refine pure_ (i := 0) (N := some 16) (v := ?_) (a' := ?_) #[true, false, false, false, false, false, false, false, false] rfl rfl (any_of HT_.out (by kernel_rfl)) (fun _ _ _ h => h) (Or.inl ⟨by rfl, ?_⟩) ?_ ?_
            rotate_left
            · intro w'
              go_simp
              with_reducible rfl
            rotate_left
            · simp only [Act.put, List.setIfInBounds_toArray, List.set_cons_zero, List.set_cons_succ, i64_w, i32_w]
              rfl
            refine pure_ (i := 1) (N := some 17) (v := ?_) (a' := ?_) #[true, true, false, false, false, false, false, false, false] rfl rfl (any_of HT_.out (by kernel_rfl)) (fun _ _ _ h => h) (Or.inl ⟨by rfl, ?_⟩) ?_ ?_
            rotate_left
            · intro w'
              go_simp
              with_reducible rfl
            rotate_left
            · simp only [Act.put, List.setIfInBounds_toArray, List.set_cons_zero, List.set_cons_succ, i64_w, i32_w]
              rfl
            refine pure_ (i := 2) (N := some 18) (v := ?_) (a' := ?_) #[true, true, true, false, false, false, false, false, false] rfl rfl (any_of HT_.out (by kernel_rfl)) (fun _ _ _ h => h) (Or.inl ⟨by rfl, ?_⟩) ?_ ?_
            rotate_left
            · intro w'
              go_simp
              with_reducible rfl
            rotate_left
            · simp only [Act.put, List.setIfInBounds_toArray, List.set_cons_zero, List.set_cons_succ, i64_w, i32_w]
              rfl
            refine pure_ (i := 4) (N := some 20) (v := ?_) (a' := ?_) #[true, true, true, false, true, false, false, false, false] rfl rfl (any_of HT_.out (by kernel_rfl)) (fun _ _ _ h => h) (Or.inl ⟨by rfl, ?_⟩) ?_ ?_
            rotate_left
            · intro w'
              go_simp
              with_reducible rfl
            rotate_left
            · simp only [Act.put, List.setIfInBounds_toArray, List.set_cons_zero, List.set_cons_succ, i64_w, i32_w]
              rfl
            refine pure_ (i := 5) (N := some 21) (v := ?_) (a' := ?_) #[true, true, true, false, true, true, false, false, false] rfl rfl (any_of HT_.out (by kernel_rfl)) (fun _ _ _ h => h) (Or.inl ⟨by rfl, ?_⟩) ?_ ?_
            rotate_left
            · intro w'
              go_simp
              with_reducible rfl
            rotate_left
            · simp only [Act.put, List.setIfInBounds_toArray, List.set_cons_zero, List.set_cons_succ, i64_w, i32_w]
              rfl
            refine pure_ (i := 6) (N := some 22) (v := ?_) (a' := ?_) #[true, true, true, false, true, true, true, false, false] rfl rfl (any_of HT_.out (by kernel_rfl)) (fun _ _ _ h => h) (Or.inl ⟨by rfl, ?_⟩) ?_ ?_
            rotate_left
            · intro w'
              go_simp
              with_reducible rfl
            rotate_left
            · simp only [Act.put, List.setIfInBounds_toArray, List.set_cons_zero, List.set_cons_succ, i64_w, i32_w]
              rfl
            refine one_ (i := 3) (N := some 19) #[true, true, true, true, true, true, true, false, false] rfl rfl (one_of HT_.out (by kernel_rfl)) (by decide) (fun K hK => ?_)
            refine goes_ Try.func71 (by kernel_rfl) rfl #[.string (a0.extract 0 ((ji9) : Int).toNat)] (by rfl) rfl rfl (by (try simp only [List.map_toArray, List.map_cons, List.map_nil]); first | done | (simp only [hji9]; rfl) | rfl | (simp only [List.length_drop, List.length_take]; rfl)) ?_
            with_reducible refine (impl_sealOf.calls (a0.extract 0 ((ji9) : Int).toNat) t154 _ A12.out).mono ?_
            rintro e w24 ⟨rfl, hb⟩
            refine ⟨_, rfl, ?_⟩
            have n0_ := Aside0.mk (blk_below (g := gb152) (o := .cells #[.string (⟨#[]⟩ : ByteArray), .int .i64 0, .int .i64 0] 68 (0, 0)) (by (with_reducible repeat (first | refine blk_drewN ?_ _ | refine blk_drew ?_ | refine blk_alloc ?_ _)); exact BK152.out) hb)
            have n1_ := Aside0.mk (below_step (by repeat (first | (with_reducible first | exact HB.out | apply below_alloc | apply pw_below_drewN | apply below_drew1 | refine below_set ?_ GE152.out) | exact HB.out)) hb)
            clear BK152
            clear HB
            have BK152 := n0_
            have HB := n1_
            clear n0_ n1_
            (try clear hb)
            (try clear hb2)
            (try clear hk)
            (try clear hi)
            refine hK.out _ _ trivial (fun hHeld => ?_)
            clear hK K
            refine norm_ (a' := ?_) ?_ ?_
            rotate_left
            · show Act.put _ (some 19) _ = _
              simp only [Act.put, List.setIfInBounds_toArray, List.set_cons_zero, List.set_cons_succ, i64_w, i32_w]
              rfl
            refine pure_ (i := 7) (N := some 23) (v := ?_) (a' := ?_) #[true, true, true, true, true, true, true, true, false] rfl rfl (any_of HT_.out (by kernel_rfl)) (fun _ _ _ h => h) (Or.inl ⟨by rfl, ?_⟩) ?_ ?_
            rotate_left
            · intro w'
              go_simp
              with_reducible rfl
            rotate_left
            · simp only [Act.put, List.setIfInBounds_toArray, List.set_cons_zero, List.set_cons_succ, i64_w, i32_w]
              rfl
            refine pure_ (i := 8) (N := some 15) (v := ?_) (a' := ?_) #[true, true, true, true, true, true, true, true, true] rfl rfl (any_of HT_.out (by kernel_rfl)) (fun _ _ _ h => h) (Or.inl ⟨by rfl, ?_⟩) ?_ ?_
            rotate_left
            · intro w'
              go_simp
              with_reducible rfl
            rotate_left
            · simp only [Act.put, List.setIfInBounds_toArray, List.set_cons_zero, List.set_cons_succ, i64_w, i32_w]
              rfl
            refine done_ (done_of HT_.out (by kernel_rfl)) ?_
            have hcz25_0 : w24.cell? ⟨gb152, 0, none⟩ = some (.string (⟨#[]⟩ : ByteArray)) := (blk_cell BK152.out 0).trans rfl
            have hcz25_1 : w24.cell? ⟨gb152, 1, none⟩ = some (.int .i64 0) := (blk_cell BK152.out 1).trans rfl
            have hcz25_2 : w24.cell? ⟨gb152, 2, none⟩ = some (.int .i64 0) := (blk_cell BK152.out 2).trans rfl
            have hfz25_0 := blk_frozen BK152.out 0
            have hfz25_1 := blk_frozen BK152.out 1
            have hfz25_2 := blk_frozen BK152.out 2
            try go_wp2
            refine bodyPost_ret (results_cell_row rfl _ _ gb152 68 #[.string (⟨#[]⟩ : ByteArray), .int .i64 0, .int .i64 5] (0, 0) _ rfl (by (with_reducible repeat (first | refine blk_drewN ?_ _ | refine blk_drew ?_ | refine blk_alloc ?_ _)); refine blk_put (cs := #[.string (⟨#[]⟩ : ByteArray), .int .i64 0, .int .i64 0]) ?_ 2 _ (by first | rfl | (subst_vars; rfl)); (with_reducible repeat (first | refine blk_drewN ?_ _ | refine blk_drew ?_ | refine blk_alloc ?_ _)); refine blk_put (cs := #[.string (⟨#[]⟩ : ByteArray), .int .i64 0, .int .i64 0]) ?_ 1 _ (by first | rfl | (subst_vars; rfl)); (with_reducible repeat (first | refine blk_drewN ?_ _ | refine blk_drew ?_ | refine blk_alloc ?_ _)); refine blk_put (cs := #[.string (⟨#[]⟩ : ByteArray), .int .i64 0, .int .i64 0]) ?_ 0 _ (by first | rfl | (subst_vars; rfl)); (with_reducible repeat (first | refine blk_drewN ?_ _ | refine blk_drew ?_ | refine blk_alloc ?_ _)); exact BK152.out) Try.underlying68 rfl (by kernel_rfl)) rfl ?_
            exact ⟨by first | rfl | (simp [errW_none, errW_some] <;> rfl) | (simp only [← hji9]; first | rfl | (simp [errW_none, errW_some] <;> rfl)) | (simp [*, errW_none, errW_some] <;> rfl), by repeat (first | (with_reducible first | exact HB.out | apply below_alloc | apply pw_below_drewN | apply below_drew1 | refine below_set ?_ GE152.out) | exact HB.out)⟩
        · rw [if_neg c11] at H
          exact absurd H (by simp)
      · rw [if_neg c10] at H
        exact absurd H (by simp)

end Go.Proofs.Ytkpbfnbdknlghaa.PFnExactPacketRead
