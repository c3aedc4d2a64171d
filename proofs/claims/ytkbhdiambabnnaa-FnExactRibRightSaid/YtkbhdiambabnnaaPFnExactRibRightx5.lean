-- Written by a program of this session (wip/ep), out of the translation. Lean checks it.
import Derived.Test.YtkbhdiambabnnaaPFnExactRibRightx0
import Derived.Test.YtkbhdiambabnnaaPFnExactRibRightx4
import Derived.StillTailTactics
namespace Go.Proofs.Ytkbhdiambabnnaa.PFnExactRibRight
open Go.RowKit Go.Proofs.YtkbhdiambabnnaaW.PrintWords Go.Proofs.YtkbhdiambabnnaaW.PrintLast Go.Proofs.YtkbhdiambabnnaaW.PrintMore
attribute [local go_sem] max2_int min2_int max_two min_two max_three min_three max_four min_four   -- for this text's walks alone
set_option linter.unusedVariables false
set_option linter.unusedSimpArgs false

/-! ### cmp_Compare_int64: function 158 -/
def cmp_Compare_int64.f (a0 : Int) (a1 : Int) : Option (Int) := (cmp_isNaN_int64.f a0).bind fun t163 => ((cmp_isNaN_int64.f a1).bind fun t164 => (if t163 = true then (if t164 = true then (some 0) else (some (-1))) else (if t164 = true then (some 1) else (if a0 < a1 then (some (-1)) else (if a0 > a1 then (some 1) else (some 0))))))
set_option maxHeartbeats 8000000 in
set_option maxRecDepth 100000 in
theorem cmp_Compare_int64.calls (a0 : Int) (a1 : Int) (r : Int) (w : World) (h : cmp_Compare_int64.f a0 a1 = some r) :
    Calls Try.prog 158 #[.int .i64 a0, .int .i64 a1] w fun e w' => e = .returned (.int .i64 r) ∧ Drawn0 w w' := by
  have H : ((cmp_isNaN_int64.f a0).bind fun t163 => ((cmp_isNaN_int64.f a1).bind fun t164 => (if t163 = true then (if t164 = true then (some 0) else (some (-1))) else (if t164 = true then (some 1) else (if a0 < a1 then (some (-1)) else (if a0 > a1 then (some 1) else (some 0))))))) = some r := h
  clear h
  replace H := Option.bind_eq_some_iff.mp H
  obtain ⟨t163, A30, H⟩ := H
  replace H : ((cmp_isNaN_int64.f a1).bind fun t164 => (if t163 = true then (if t164 = true then (some 0) else (some (-1))) else (if t164 = true then (some 1) else (if a0 < a1 then (some (-1)) else (if a0 > a1 then (some 1) else (some 0)))))) = some r := H
  have A3 := Aside0.mk A30
  clear A30
  replace H := Option.bind_eq_some_iff.mp H
  obtain ⟨t164, A40, H⟩ := H
  replace H : (if t163 = true then (if t164 = true then (some 0) else (some (-1))) else (if t164 = true then (some 1) else (if a0 < a1 then (some (-1)) else (if a0 > a1 then (some 1) else (some 0))))) = some r := H
  have A4 := Aside0.mk A40
  clear A40
  by_cases c5 : t163 = true
  · subst c5
    have H1 : (if t164 = true then (some 0) else (some (-1))) = some r := by rw [if_pos rfl] at H; exact H
    clear H
    have H := H1
    clear H1
    by_cases c6 : t164 = true
    · subst c6
      have H1 : (some 0) = some r := by rw [if_pos rfl] at H; exact H
      clear H
      have H := H1
      clear H1
      obtain rfl := Option.some.inj H
      go_enter Try.func158, Try.ntmps158
      go_wp2_with (first | ((with_reducible refine gate_callee (f := 167) rfl ?_); refine goesL_ (some 8) rfl rfl Try.func167 (by kernel_rfl) rfl #[.int .i64 a0] rfl (by (try simp only [List.map_toArray, List.map_cons, List.map_nil]); first | done | rfl | (simp only [List.length_drop, List.length_take]; rfl)) ?_; (with_reducible refine (cmp_isNaN_int64.calls a0 true _ A3.out).mono ?_); rintro e w' ⟨rfl, ⟨nd, rfl⟩⟩; refine ⟨_, rfl, ?_⟩) | ((with_reducible refine gate_callee (f := 167) rfl ?_); refine goesL_ (some 10) rfl rfl Try.func167 (by kernel_rfl) rfl #[.int .i64 a1] rfl (by (try simp only [List.map_toArray, List.map_cons, List.map_nil]); first | done | rfl | (simp only [List.length_drop, List.length_take]; rfl)) ?_; (with_reducible refine (cmp_isNaN_int64.calls a1 true _ A4.out).mono ?_); rintro e w' ⟨rfl, ⟨nd, rfl⟩⟩; refine ⟨_, rfl, ?_⟩))
      (try (unfold Instr.field; go_simp; unfold asAgg; go_simp; go_wp2))
      go_ret
      exact ⟨by first | rfl | (simp; done) | (simp [*]; done), by repeat (first | exact Drawn0.refl _ | apply Drawn0.step)⟩
    · replace c6 := Bool.eq_false_iff.mpr c6
      subst c6
      have H1 : (some (-1)) = some r := by rw [if_neg (show ¬ (false = true) by decide)] at H; exact H
      clear H
      have H := H1
      clear H1
      obtain rfl := Option.some.inj H
      go_enter Try.func158, Try.ntmps158
      go_wp2_with (first | ((with_reducible refine gate_callee (f := 167) rfl ?_); refine goesL_ (some 8) rfl rfl Try.func167 (by kernel_rfl) rfl #[.int .i64 a0] rfl (by (try simp only [List.map_toArray, List.map_cons, List.map_nil]); first | done | rfl | (simp only [List.length_drop, List.length_take]; rfl)) ?_; (with_reducible refine (cmp_isNaN_int64.calls a0 true _ A3.out).mono ?_); rintro e w' ⟨rfl, ⟨nd, rfl⟩⟩; refine ⟨_, rfl, ?_⟩) | ((with_reducible refine gate_callee (f := 167) rfl ?_); refine goesL_ (some 10) rfl rfl Try.func167 (by kernel_rfl) rfl #[.int .i64 a1] rfl (by (try simp only [List.map_toArray, List.map_cons, List.map_nil]); first | done | rfl | (simp only [List.length_drop, List.length_take]; rfl)) ?_; (with_reducible refine (cmp_isNaN_int64.calls a1 false _ A4.out).mono ?_); rintro e w' ⟨rfl, ⟨nd, rfl⟩⟩; refine ⟨_, rfl, ?_⟩))
      (try (unfold Instr.field; go_simp; unfold asAgg; go_simp; go_wp2))
      go_ret
      exact ⟨by first | rfl | (simp; done) | (simp [*]; done), by repeat (first | exact Drawn0.refl _ | apply Drawn0.step)⟩
  · replace c5 := Bool.eq_false_iff.mpr c5
    subst c5
    have H1 : (if t164 = true then (some 1) else (if a0 < a1 then (some (-1)) else (if a0 > a1 then (some 1) else (some 0)))) = some r := by rw [if_neg (show ¬ (false = true) by decide)] at H; exact H
    clear H
    have H := H1
    clear H1
    by_cases c7 : t164 = true
    · subst c7
      have H1 : (some 1) = some r := by rw [if_pos rfl] at H; exact H
      clear H
      have H := H1
      clear H1
      obtain rfl := Option.some.inj H
      go_enter Try.func158, Try.ntmps158
      go_wp2_with (first | ((with_reducible refine gate_callee (f := 167) rfl ?_); refine goesL_ (some 8) rfl rfl Try.func167 (by kernel_rfl) rfl #[.int .i64 a0] rfl (by (try simp only [List.map_toArray, List.map_cons, List.map_nil]); first | done | rfl | (simp only [List.length_drop, List.length_take]; rfl)) ?_; (with_reducible refine (cmp_isNaN_int64.calls a0 false _ A3.out).mono ?_); rintro e w' ⟨rfl, ⟨nd, rfl⟩⟩; refine ⟨_, rfl, ?_⟩) | ((with_reducible refine gate_callee (f := 167) rfl ?_); refine goesL_ (some 10) rfl rfl Try.func167 (by kernel_rfl) rfl #[.int .i64 a1] rfl (by (try simp only [List.map_toArray, List.map_cons, List.map_nil]); first | done | rfl | (simp only [List.length_drop, List.length_take]; rfl)) ?_; (with_reducible refine (cmp_isNaN_int64.calls a1 true _ A4.out).mono ?_); rintro e w' ⟨rfl, ⟨nd, rfl⟩⟩; refine ⟨_, rfl, ?_⟩))
      (try (unfold Instr.field; go_simp; unfold asAgg; go_simp; go_wp2))
      go_ret
      exact ⟨by first | rfl | (simp; done) | (simp [*]; done), by repeat (first | exact Drawn0.refl _ | apply Drawn0.step)⟩
    · replace c7 := Bool.eq_false_iff.mpr c7
      subst c7
      have H1 : (if a0 < a1 then (some (-1)) else (if a0 > a1 then (some 1) else (some 0))) = some r := by rw [if_neg (show ¬ (false = true) by decide)] at H; exact H
      clear H
      have H := H1
      clear H1
      by_cases c8 : a0 < a1
      · rw [if_pos c8] at H
        have c8b0 : decide (a0 < a1) = true := decide_eq_true c8
        clear c8
        obtain rfl := Option.some.inj H
        go_enter Try.func158, Try.ntmps158
        go_wp2_with (first | ((with_reducible refine gate_callee (f := 167) rfl ?_); refine goesL_ (some 8) rfl rfl Try.func167 (by kernel_rfl) rfl #[.int .i64 a0] rfl (by (try simp only [List.map_toArray, List.map_cons, List.map_nil]); first | done | rfl | (simp only [List.length_drop, List.length_take]; rfl)) ?_; (with_reducible refine (cmp_isNaN_int64.calls a0 false _ A3.out).mono ?_); rintro e w' ⟨rfl, ⟨nd, rfl⟩⟩; refine ⟨_, rfl, ?_⟩) | ((with_reducible refine gate_callee (f := 167) rfl ?_); refine goesL_ (some 10) rfl rfl Try.func167 (by kernel_rfl) rfl #[.int .i64 a1] rfl (by (try simp only [List.map_toArray, List.map_cons, List.map_nil]); first | done | rfl | (simp only [List.length_drop, List.length_take]; rfl)) ?_; (with_reducible refine (cmp_isNaN_int64.calls a1 false _ A4.out).mono ?_); rintro e w' ⟨rfl, ⟨nd, rfl⟩⟩; refine ⟨_, rfl, ?_⟩))
        (try (unfold Instr.field; go_simp; unfold asAgg; go_simp; go_wp2))
        go_ret
        exact ⟨by first | rfl | (simp; done) | (simp [*]; done), by repeat (first | exact Drawn0.refl _ | apply Drawn0.step)⟩
      · rw [if_neg c8] at H
        have c8b0 : decide (a0 < a1) = false := decide_eq_false c8
        clear c8
        by_cases c9 : a0 > a1
        · rw [if_pos c9] at H
          have c9b0 : decide (a1 < a0) = true := decide_eq_true c9
          clear c9
          obtain rfl := Option.some.inj H
          go_enter Try.func158, Try.ntmps158
          go_wp2_with (first | ((with_reducible refine gate_callee (f := 167) rfl ?_); refine goesL_ (some 8) rfl rfl Try.func167 (by kernel_rfl) rfl #[.int .i64 a0] rfl (by (try simp only [List.map_toArray, List.map_cons, List.map_nil]); first | done | rfl | (simp only [List.length_drop, List.length_take]; rfl)) ?_; (with_reducible refine (cmp_isNaN_int64.calls a0 false _ A3.out).mono ?_); rintro e w' ⟨rfl, ⟨nd, rfl⟩⟩; refine ⟨_, rfl, ?_⟩) | ((with_reducible refine gate_callee (f := 167) rfl ?_); refine goesL_ (some 10) rfl rfl Try.func167 (by kernel_rfl) rfl #[.int .i64 a1] rfl (by (try simp only [List.map_toArray, List.map_cons, List.map_nil]); first | done | rfl | (simp only [List.length_drop, List.length_take]; rfl)) ?_; (with_reducible refine (cmp_isNaN_int64.calls a1 false _ A4.out).mono ?_); rintro e w' ⟨rfl, ⟨nd, rfl⟩⟩; refine ⟨_, rfl, ?_⟩))
          (try (unfold Instr.field; go_simp; unfold asAgg; go_simp; go_wp2))
          go_ret
          exact ⟨by first | rfl | (simp; done) | (simp [*]; done), by repeat (first | exact Drawn0.refl _ | apply Drawn0.step)⟩
        · rw [if_neg c9] at H
          have c9b0 : decide (a1 < a0) = false := decide_eq_false c9
          clear c9
          obtain rfl := Option.some.inj H
          go_enter Try.func158, Try.ntmps158
          go_wp2_with (first | ((with_reducible refine gate_callee (f := 167) rfl ?_); refine goesL_ (some 8) rfl rfl Try.func167 (by kernel_rfl) rfl #[.int .i64 a0] rfl (by (try simp only [List.map_toArray, List.map_cons, List.map_nil]); first | done | rfl | (simp only [List.length_drop, List.length_take]; rfl)) ?_; (with_reducible refine (cmp_isNaN_int64.calls a0 false _ A3.out).mono ?_); rintro e w' ⟨rfl, ⟨nd, rfl⟩⟩; refine ⟨_, rfl, ?_⟩) | ((with_reducible refine gate_callee (f := 167) rfl ?_); refine goesL_ (some 10) rfl rfl Try.func167 (by kernel_rfl) rfl #[.int .i64 a1] rfl (by (try simp only [List.map_toArray, List.map_cons, List.map_nil]); first | done | rfl | (simp only [List.length_drop, List.length_take]; rfl)) ?_; (with_reducible refine (cmp_isNaN_int64.calls a1 false _ A4.out).mono ?_); rintro e w' ⟨rfl, ⟨nd, rfl⟩⟩; refine ⟨_, rfl, ?_⟩))
          (try (unfold Instr.field; go_simp; unfold asAgg; go_simp; go_wp2))
          go_ret
          exact ⟨by first | rfl | (simp; done) | (simp [*]; done), by repeat (first | exact Drawn0.refl _ | apply Drawn0.step)⟩

/-! ### impl_Held_order: function 125 -/
def impl_Held_order.f (k : Nat) (a0_0 : Int) (a0_1 : Bool) (a0_2 : Int) (a0_3 : Int) (a0_4 : Int) (a0_5 : Int) (a0_6 : Int) (a0_7 : Int) (a0_8 : Bool) (a1_0 : Int) (a1_1 : Bool) (a1_2 : Int) (a1_3 : Int) (a1_4 : Int) (a1_5 : Int) (a1_6 : Int) (a1_7 : Int) (a1_8 : Bool) : Option (Int) := (cmp_Compare_int64.f a0_0 a1_0).bind fun t1 => ((cmp_Compare_int64.f a0_2 a1_2).bind fun t2 => ((cmp_Compare_int64.f a0_3 a1_3).bind fun t3 => ((cmp_Compare_int64.f a0_4 a1_4).bind fun t4 => ((cmp_Compare_int64.f a0_6 a1_6).bind fun t5 => (cmp_Or_int.f k (([t1, t2, t3, t4, t5] : List Int)))))))
theorem impl_Held_order.mono : ∀ a0_0 a0_1 a0_2 a0_3 a0_4 a0_5 a0_6 a0_7 a0_8 a1_0 a1_1 a1_2 a1_3 a1_4 a1_5 a1_6 a1_7 a1_8 k, LeO (impl_Held_order.f k a0_0 a0_1 a0_2 a0_3 a0_4 a0_5 a0_6 a0_7 a0_8 a1_0 a1_1 a1_2 a1_3 a1_4 a1_5 a1_6 a1_7 a1_8) (impl_Held_order.f (k + 1) a0_0 a0_1 a0_2 a0_3 a0_4 a0_5 a0_6 a0_7 a0_8 a1_0 a1_1 a1_2 a1_3 a1_4 a1_5 a1_6 a1_7 a1_8) := by
  intro a0_0 a0_1 a0_2 a0_3 a0_4 a0_5 a0_6 a0_7 a0_8 a1_0 a1_1 a1_2 a1_3 a1_4 a1_5 a1_6 a1_7 a1_8 k
  unfold impl_Held_order.f
  repeat' first
      | (with_reducible exact cmp_Or_int.mono _ _)
      | (with_reducible exact LeO.refl _)
      | (with_reducible refine LeO.bind ?_ (fun _ => ?_))
      | exact cmp_Or_int.mono _ _
      | refine LeO.bind ?_ (fun _ => ?_)
/-- Compare leaves the world alone, and no order is drawn in it. -/
theorem impl_Held_order.cmp (a b r : Int) (h : cmp_Compare_int64.f a b = some r) (w : World) : Calls Try.prog 158 #[.int .i64 a, .int .i64 b] w fun e w' => e = .returned (.int .i64 r) ∧ w' = w := by
  unfold cmp_Compare_int64.f at h
  have ha : (a != a) = false := by simp
  have hb : (b != b) = false := by simp
  have h1 : cmp_isNaN_int64.f a = some false := by unfold cmp_isNaN_int64.f; first | rfl | simp
  have h2 : cmp_isNaN_int64.f b = some false := by unfold cmp_isNaN_int64.f; first | rfl | simp
  rw [h1, h2, Option.bind_some, Option.bind_some, if_neg (by decide), if_neg (by decide)] at h
  clear h1 h2
  by_cases c : a < b
  · rw [if_pos c] at h
    have d : decide (a < b) = true := decide_eq_true c
    obtain rfl := Option.some.inj h
    clear h c
    go_enter Try.func158, Try.ntmps158
    go_wp2
    go_ret
    exact ⟨rfl, rfl⟩
  · rw [if_neg c] at h
    have d : decide (a < b) = false := decide_eq_false c
    by_cases c2 : a > b
    · rw [if_pos c2] at h
      have d2 : decide (b < a) = true := decide_eq_true c2
      obtain rfl := Option.some.inj h
      clear h c c2
      go_enter Try.func158, Try.ntmps158
      go_wp2
      go_ret
      exact ⟨rfl, rfl⟩
    · rw [if_neg c2] at h
      have d2 : decide (b < a) = false := decide_eq_false c2
      obtain rfl := Option.some.inj h
      clear h c c2
      go_enter Try.func158, Try.ntmps158
      go_wp2
      go_ret
      exact ⟨rfl, rfl⟩
theorem impl_Held_order.row5 (W : World) (t1 t2 t3 t4 t5 : Int) : Kd.C (Kd.int .i64) (W.alloc (.cells #[.int .i64 t1, .int .i64 t2, .int .i64 t3, .int .i64 t4, .int .i64 t5] 3)) (some ⟨W.heap.size, 0, none⟩) [t1, t2, t3, t4, t5].length [t1, t2, t3, t4, t5] := by
  refine Kd.C_of_reads (enc := Value.int .i64) (d := (0 : Int)) (h1 := fun _ => rfl) ⟨rfl, by simp, fun _ => ⟨_, rfl, fun j hj => ?_⟩⟩
  have hj' : j = 0 ∨ j = 1 ∨ j = 2 ∨ j = 3 ∨ j = 4 := by simp only [List.length_cons, List.length_nil] at hj; omega
  rcases hj' with rfl | rfl | rfl | rfl | rfl
  all_goals exact (blk_cell (blk_new W _) _).trans rfl
/-- The two entries' blocks, at any world of the call. -/
structure impl_Held_order.BX (w W : World) (a0_0 : Int) (a0_1 : Bool) (a0_2 : Int) (a0_3 : Int) (a0_4 : Int) (a0_5 : Int) (a0_6 : Int) (a0_7 : Int) (a0_8 : Bool) (a1_0 : Int) (a1_1 : Bool) (a1_2 : Int) (a1_3 : Int) (a1_4 : Int) (a1_5 : Int) (a1_6 : Int) (a1_7 : Int) (a1_8 : Bool) : Prop where
  ba : W.heap[w.heap.size]? = some (.cells #[.int .i64 a0_0, .bool a0_1, .int .i64 a0_2, .int .i64 a0_3, .int .i64 a0_4, .int .i64 a0_5, .int .i64 a0_6, .int .i64 a0_7, .bool a0_8] 135 (0, 0))
  bb : W.heap[w.heap.size + 1]? = some (.cells #[.int .i64 a1_0, .bool a1_1, .int .i64 a1_2, .int .i64 a1_3, .int .i64 a1_4, .int .i64 a1_5, .int .i64 a1_6, .int .i64 a1_7, .bool a1_8] 135 (0, 0))
  bl : Below w.heap.size w W
theorem impl_Held_order.BX.far {w W : World} {a0_0 : Int} {a0_1 : Bool} {a0_2 : Int} {a0_3 : Int} {a0_4 : Int} {a0_5 : Int} {a0_6 : Int} {a0_7 : Int} {a0_8 : Bool} {a1_0 : Int} {a1_1 : Bool} {a1_2 : Int} {a1_3 : Int} {a1_4 : Int} {a1_5 : Int} {a1_6 : Int} {a1_7 : Int} {a1_8 : Bool} {W1 : World} (h : impl_Held_order.BX w W a0_0 a0_1 a0_2 a0_3 a0_4 a0_5 a0_6 a0_7 a0_8 a1_0 a1_1 a1_2 a1_3 a1_4 a1_5 a1_6 a1_7 a1_8) (hb : Below W.heap.size W W1) : impl_Held_order.BX w W1 a0_0 a0_1 a0_2 a0_3 a0_4 a0_5 a0_6 a0_7 a0_8 a1_0 a1_1 a1_2 a1_3 a1_4 a1_5 a1_6 a1_7 a1_8 := ⟨blk_below h.ba hb, blk_below h.bb hb, below_step h.bl hb⟩
theorem impl_Held_order.BX.drew {w W : World} {a0_0 : Int} {a0_1 : Bool} {a0_2 : Int} {a0_3 : Int} {a0_4 : Int} {a0_5 : Int} {a0_6 : Int} {a0_7 : Int} {a0_8 : Bool} {a1_0 : Int} {a1_1 : Bool} {a1_2 : Int} {a1_3 : Int} {a1_4 : Int} {a1_5 : Int} {a1_6 : Int} {a1_7 : Int} {a1_8 : Bool} (h : impl_Held_order.BX w W a0_0 a0_1 a0_2 a0_3 a0_4 a0_5 a0_6 a0_7 a0_8 a1_0 a1_1 a1_2 a1_3 a1_4 a1_5 a1_6 a1_7 a1_8) : impl_Held_order.BX w W.drew a0_0 a0_1 a0_2 a0_3 a0_4 a0_5 a0_6 a0_7 a0_8 a1_0 a1_1 a1_2 a1_3 a1_4 a1_5 a1_6 a1_7 a1_8 := ⟨blk_drew h.ba, blk_drew h.bb, below_drew1 h.bl⟩
theorem impl_Held_order.BX.held {w W : World} {a0_0 : Int} {a0_1 : Bool} {a0_2 : Int} {a0_3 : Int} {a0_4 : Int} {a0_5 : Int} {a0_6 : Int} {a0_7 : Int} {a0_8 : Bool} {a1_0 : Int} {a1_1 : Bool} {a1_2 : Int} {a1_3 : Int} {a1_4 : Int} {a1_5 : Int} {a1_6 : Int} {a1_7 : Int} {a1_8 : Bool} (h : impl_Held_order.BX w W a0_0 a0_1 a0_2 a0_3 a0_4 a0_5 a0_6 a0_7 a0_8 a1_0 a1_1 a1_2 a1_3 a1_4 a1_5 a1_6 a1_7 a1_8) : W.cell? ⟨w.heap.size, 2, none⟩ = some (.int .i64 a0_2) ∧ W.cell? ⟨w.heap.size, 3, none⟩ = some (.int .i64 a0_3) ∧ W.cell? ⟨w.heap.size, 4, none⟩ = some (.int .i64 a0_4) ∧ W.cell? ⟨w.heap.size, 5, none⟩ = some (.int .i64 a0_5) ∧ W.cell? ⟨w.heap.size, 6, none⟩ = some (.int .i64 a0_6) ∧ W.cell? ⟨w.heap.size, 7, none⟩ = some (.int .i64 a0_7) ∧ W.cell? ⟨w.heap.size, 8, none⟩ = some (.bool a0_8) ∧ W.cell? ⟨w.heap.size + 1, 2, none⟩ = some (.int .i64 a1_2) ∧ W.cell? ⟨w.heap.size + 1, 3, none⟩ = some (.int .i64 a1_3) ∧ W.cell? ⟨w.heap.size + 1, 4, none⟩ = some (.int .i64 a1_4) ∧ W.cell? ⟨w.heap.size + 1, 5, none⟩ = some (.int .i64 a1_5) ∧ W.cell? ⟨w.heap.size + 1, 6, none⟩ = some (.int .i64 a1_6) ∧ W.cell? ⟨w.heap.size + 1, 7, none⟩ = some (.int .i64 a1_7) ∧ W.cell? ⟨w.heap.size + 1, 8, none⟩ = some (.bool a1_8) := ⟨(blk_cell h.ba 2).trans rfl, (blk_cell h.ba 3).trans rfl, (blk_cell h.ba 4).trans rfl, (blk_cell h.ba 5).trans rfl, (blk_cell h.ba 6).trans rfl, (blk_cell h.ba 7).trans rfl, (blk_cell h.ba 8).trans rfl, (blk_cell h.bb 2).trans rfl, (blk_cell h.bb 3).trans rfl, (blk_cell h.bb 4).trans rfl, (blk_cell h.bb 5).trans rfl, (blk_cell h.bb 6).trans rfl, (blk_cell h.bb 7).trans rfl, (blk_cell h.bb 8).trans rfl⟩
theorem impl_Held_order.put {W : World} {g : Nat} {o0 o1 o2 o3 o4 o5 o6 : Value} (h : W.heap[g]? = some (.cells #[o0, o1, o2, o3, o4, o5, o6] 59 (0, 0))) (v0 v1 v2 v3 v4 v5 v6 : Value) : (((((((W.setCell ⟨g, 0, none⟩ v0).setCell ⟨g, 1, none⟩ v1).setCell ⟨g, 2, none⟩ v2).setCell ⟨g, 3, none⟩ v3).setCell ⟨g, 4, none⟩ v4).setCell ⟨g, 5, none⟩ v5).setCell ⟨g, 6, none⟩ v6).heap[g]? = some (.cells #[v0, v1, v2, v3, v4, v5, v6] 59 (0, 0)) := by
  have h1 := blk_set h 0 v0
  have h2 := blk_set h1 1 v1
  have h3 := blk_set h2 2 v2
  have h4 := blk_set h3 3 v3
  have h5 := blk_set h4 4 v4
  have h6 := blk_set h5 5 v5
  have h7 := blk_set h6 6 v6
  simpa using h7
theorem impl_Held_order.far7 {W : World} {g g' : Nat} {t : TypeId} {cs : Array Value} (hn : g' ≠ g) (h : W.heap[g']? = some (.cells cs t (0, 0))) (v0 v1 v2 v3 v4 v5 v6 : Value) : (((((((W.setCell ⟨g, 0, none⟩ v0).setCell ⟨g, 1, none⟩ v1).setCell ⟨g, 2, none⟩ v2).setCell ⟨g, 3, none⟩ v3).setCell ⟨g, 4, none⟩ v4).setCell ⟨g, 5, none⟩ v5).setCell ⟨g, 6, none⟩ v6).heap[g']? = some (.cells cs t (0, 0)) := (blk_far (blk_far (blk_far (blk_far (blk_far (blk_far (blk_far h hn _) hn _) hn _) hn _) hn _) hn _) hn _)
theorem impl_Held_order.bl7 {w W : World} {g : Nat} (hg : w.heap.size ≤ g) (h : Below w.heap.size w W) (v0 v1 v2 v3 v4 v5 v6 : Value) : Below w.heap.size w (((((((W.setCell ⟨g, 0, none⟩ v0).setCell ⟨g, 1, none⟩ v1).setCell ⟨g, 2, none⟩ v2).setCell ⟨g, 3, none⟩ v3).setCell ⟨g, 4, none⟩ v4).setCell ⟨g, 5, none⟩ v5).setCell ⟨g, 6, none⟩ v6) := (below_set (below_set (below_set (below_set (below_set (below_set (below_set h hg) hg) hg) hg) hg) hg) hg)
theorem impl_Held_order.BX.set7 {w W : World} {a0_0 : Int} {a0_1 : Bool} {a0_2 : Int} {a0_3 : Int} {a0_4 : Int} {a0_5 : Int} {a0_6 : Int} {a0_7 : Int} {a0_8 : Bool} {a1_0 : Int} {a1_1 : Bool} {a1_2 : Int} {a1_3 : Int} {a1_4 : Int} {a1_5 : Int} {a1_6 : Int} {a1_7 : Int} {a1_8 : Bool} {g : Nat} (h : impl_Held_order.BX w W a0_0 a0_1 a0_2 a0_3 a0_4 a0_5 a0_6 a0_7 a0_8 a1_0 a1_1 a1_2 a1_3 a1_4 a1_5 a1_6 a1_7 a1_8) (h0 : w.heap.size ≠ g) (h1 : w.heap.size + 1 ≠ g) (hg : w.heap.size ≤ g) (v0 v1 v2 v3 v4 v5 v6 : Value) : impl_Held_order.BX w (((((((W.setCell ⟨g, 0, none⟩ v0).setCell ⟨g, 1, none⟩ v1).setCell ⟨g, 2, none⟩ v2).setCell ⟨g, 3, none⟩ v3).setCell ⟨g, 4, none⟩ v4).setCell ⟨g, 5, none⟩ v5).setCell ⟨g, 6, none⟩ v6) a0_0 a0_1 a0_2 a0_3 a0_4 a0_5 a0_6 a0_7 a0_8 a1_0 a1_1 a1_2 a1_3 a1_4 a1_5 a1_6 a1_7 a1_8 := ⟨impl_Held_order.far7 h0 h.ba v0 v1 v2 v3 v4 v5 v6, impl_Held_order.far7 h1 h.bb v0 v1 v2 v3 v4 v5 v6, impl_Held_order.bl7 hg h.bl v0 v1 v2 v3 v4 v5 v6⟩
theorem impl_Held_order.tab1 : rtab .any (opsOf Try.f125 1) = rtab .any (opsOf Try.f125 1) := rfl
theorem impl_Held_order.gen {P : Program} {c : Code} {Q : Exit → Act → World → Prop} {a : Act} {W : World} (p : World → Prop) (h : p W) (k : ∀ W1, p W1 → Code.wp P c Q a W1) : Code.wp P c Q a W := k W h
set_option maxHeartbeats 1600000 in
set_option maxRecDepth 100000 in
theorem impl_Held_order.calls (k : Nat) (a0_0 : Int) (a0_1 : Bool) (a0_2 : Int) (a0_3 : Int) (a0_4 : Int) (a0_5 : Int) (a0_6 : Int) (a0_7 : Int) (a0_8 : Bool) (a1_0 : Int) (a1_1 : Bool) (a1_2 : Int) (a1_3 : Int) (a1_4 : Int) (a1_5 : Int) (a1_6 : Int) (a1_7 : Int) (a1_8 : Bool) (r : Int) (w : World) (h : impl_Held_order.f k a0_0 a0_1 a0_2 a0_3 a0_4 a0_5 a0_6 a0_7 a0_8 a1_0 a1_1 a1_2 a1_3 a1_4 a1_5 a1_6 a1_7 a1_8 = some r) :
    Calls Try.prog 125 #[.agg #[.int .i64 a0_0, .bool a0_1, .int .i64 a0_2, .int .i64 a0_3, .int .i64 a0_4, .int .i64 a0_5, .int .i64 a0_6, .int .i64 a0_7, .bool a0_8], .agg #[.int .i64 a1_0, .bool a1_1, .int .i64 a1_2, .int .i64 a1_3, .int .i64 a1_4, .int .i64 a1_5, .int .i64 a1_6, .int .i64 a1_7, .bool a1_8]] w fun e w' => e = .returned (.int .i64 r) ∧ Below w.heap.size w w' := by
  unfold impl_Held_order.f at h
  replace h := Option.bind_eq_some_iff.mp h
  obtain ⟨t1, q1, h⟩ := h
  have Q1 := Aside0.mk q1
  clear q1
  replace h := Option.bind_eq_some_iff.mp h
  obtain ⟨t2, q2, h⟩ := h
  have Q2 := Aside0.mk q2
  clear q2
  replace h := Option.bind_eq_some_iff.mp h
  obtain ⟨t3, q3, h⟩ := h
  have Q3 := Aside0.mk q3
  clear q3
  replace h := Option.bind_eq_some_iff.mp h
  obtain ⟨t4, q4, h⟩ := h
  have Q4 := Aside0.mk q4
  clear q4
  replace h := Option.bind_eq_some_iff.mp h
  obtain ⟨t5, q5, h⟩ := h
  have Q5 := Aside0.mk q5
  clear q5
  have H := Aside0.mk h
  clear h
  have hu135 := Try.underlying135
  have hu59 := Try.underlying59
  go_enter Try.func125, Try.ntmps125
  go_upto_region 1 with (fail)
  refine impl_Held_order.gen (fun W => impl_Held_order.BX w W a0_0 a0_1 a0_2 a0_3 a0_4 a0_5 a0_6 a0_7 a0_8 a1_0 a1_1 a1_2 a1_3 a1_4 a1_5 a1_6 a1_7 a1_8) ⟨blk_alloc (blk_new w _) _, by simpa using heap_alloc_new (w.alloc _) _, below_alloc (below_alloc (Below.refl _ _) _) _⟩ ?_
  intro W0 BX0_
  have BX0 := Aside0.mk BX0_
  clear BX0_
  refine start_ (n := 8) (S := (fun w' => w'.cell? ⟨w.heap.size, 2, none⟩ = some (.int .i64 a0_2) ∧ w'.cell? ⟨w.heap.size, 3, none⟩ = some (.int .i64 a0_3) ∧ w'.cell? ⟨w.heap.size, 4, none⟩ = some (.int .i64 a0_4) ∧ w'.cell? ⟨w.heap.size, 5, none⟩ = some (.int .i64 a0_5) ∧ w'.cell? ⟨w.heap.size, 6, none⟩ = some (.int .i64 a0_6) ∧ w'.cell? ⟨w.heap.size, 7, none⟩ = some (.int .i64 a0_7) ∧ w'.cell? ⟨w.heap.size, 8, none⟩ = some (.bool a0_8) ∧ w'.cell? ⟨w.heap.size + 1, 2, none⟩ = some (.int .i64 a1_2) ∧ w'.cell? ⟨w.heap.size + 1, 3, none⟩ = some (.int .i64 a1_3) ∧ w'.cell? ⟨w.heap.size + 1, 4, none⟩ = some (.int .i64 a1_4) ∧ w'.cell? ⟨w.heap.size + 1, 5, none⟩ = some (.int .i64 a1_5) ∧ w'.cell? ⟨w.heap.size + 1, 6, none⟩ = some (.int .i64 a1_6) ∧ w'.cell? ⟨w.heap.size + 1, 7, none⟩ = some (.int .i64 a1_7) ∧ w'.cell? ⟨w.heap.size + 1, 8, none⟩ = some (.bool a1_8))) (ds := []) #[false, false, false, false, false, false, false, false] (by kernel_rfl) rfl rfl BX0.out.drew.held (fun hHeld => ?_)
  refine pure_ (i := 0) (N := some 7) (v := ?_) (a' := ?_) #[true, false, false, false, false, false, false, false] rfl rfl (any_of impl_Held_order.tab1 (by kernel_rfl)) (fun _ _ _ h => h) (Or.inl ⟨by rfl, ?_⟩) ?_ ?_
  rotate_left
  · intro w'
    go_simp
    with_reducible rfl
  rotate_left
  · simp only [Act.put, List.setIfInBounds_toArray, List.set_cons_zero, List.set_cons_succ, i64_w, i32_w]
    rfl
  refine pure_ (i := 2) (N := some 9) (v := ?_) (a' := ?_) #[true, false, true, false, false, false, false, false] rfl rfl (any_of impl_Held_order.tab1 (by kernel_rfl)) (fun _ _ _ h => h) (Or.inl ⟨by rfl, ?_⟩) ?_ ?_
  rotate_left
  · intro w'
    go_simp
    with_reducible rfl
  rotate_left
  · simp only [Act.put, List.setIfInBounds_toArray, List.set_cons_zero, List.set_cons_succ, i64_w, i32_w]
    rfl
  refine take_ (i := 1) (N := some 8) (v := ?_) (a' := ?_) #[true, true, true, false, false, false, false, false] rfl rfl (take_of impl_Held_order.tab1 (by kernel_rfl)) (fun _ _ _ h => h) (Or.inl ⟨by rfl, ?_⟩) hHeld ?_ ?_
  rotate_left
  · rintro w' ⟨s0, s1, s2, s3, s4, s5, s6, s7, s8, s9, s10, s11, s12, s13⟩
    go_simp
    with_reducible rfl
  rotate_left
  · simp only [Act.put, List.setIfInBounds_toArray, List.set_cons_zero, List.set_cons_succ, i64_w, i32_w]
    rfl
  refine take_ (i := 3) (N := some 10) (v := ?_) (a' := ?_) #[true, true, true, true, false, false, false, false] rfl rfl (take_of impl_Held_order.tab1 (by kernel_rfl)) (fun _ _ _ h => h) (Or.inl ⟨by rfl, ?_⟩) hHeld ?_ ?_
  rotate_left
  · rintro w' ⟨s0, s1, s2, s3, s4, s5, s6, s7, s8, s9, s10, s11, s12, s13⟩
    go_simp
    with_reducible rfl
  rotate_left
  · simp only [Act.put, List.setIfInBounds_toArray, List.set_cons_zero, List.set_cons_succ, i64_w, i32_w]
    rfl
  have BX1 := Aside0.mk BX0.out.drew
  generalize W0.drew = W1 at hHeld BX1 ⊢
  clear BX0
  refine join_ (σ := Nat × Nat) 2 #[true, true, true, true, true, true, false, false] (fun s_ => [(5, .pointer (some ⟨s_.1, 0, none⟩)), (6, .pointer (some ⟨s_.2, 0, none⟩))]) (fun s_ w' => (fun w' => w'.cell? ⟨w.heap.size, 2, none⟩ = some (.int .i64 a0_2) ∧ w'.cell? ⟨w.heap.size, 3, none⟩ = some (.int .i64 a0_3) ∧ w'.cell? ⟨w.heap.size, 4, none⟩ = some (.int .i64 a0_4) ∧ w'.cell? ⟨w.heap.size, 5, none⟩ = some (.int .i64 a0_5) ∧ w'.cell? ⟨w.heap.size, 6, none⟩ = some (.int .i64 a0_6) ∧ w'.cell? ⟨w.heap.size, 7, none⟩ = some (.int .i64 a0_7) ∧ w'.cell? ⟨w.heap.size, 8, none⟩ = some (.bool a0_8) ∧ w'.cell? ⟨w.heap.size + 1, 2, none⟩ = some (.int .i64 a1_2) ∧ w'.cell? ⟨w.heap.size + 1, 3, none⟩ = some (.int .i64 a1_3) ∧ w'.cell? ⟨w.heap.size + 1, 4, none⟩ = some (.int .i64 a1_4) ∧ w'.cell? ⟨w.heap.size + 1, 5, none⟩ = some (.int .i64 a1_5) ∧ w'.cell? ⟨w.heap.size + 1, 6, none⟩ = some (.int .i64 a1_6) ∧ w'.cell? ⟨w.heap.size + 1, 7, none⟩ = some (.int .i64 a1_7) ∧ w'.cell? ⟨w.heap.size + 1, 8, none⟩ = some (.bool a1_8)) w' ∧ w'.heap[s_.1]? = some (.cells #[.int .i64 0, .int .i64 0, .int .i64 0, .int .i64 0, .int .i64 0, .int .i64 0, .bool false] 59 (0, 0)) ∧ w'.heap[s_.2]? = some (.cells #[.int .i64 0, .int .i64 0, .int .i64 0, .int .i64 0, .int .i64 0, .int .i64 0, .bool false] 59 (0, 0)) ∧ s_.1 ≠ s_.2 ∧ w.heap.size + 1 < s_.1 ∧ w.heap.size + 1 < s_.2 ∧ impl_Held_order.BX w w' a0_0 a0_1 a0_2 a0_3 a0_4 a0_5 a0_6 a0_7 a0_8 a1_0 a1_1 a1_2 a1_3 a1_4 a1_5 a1_6 a1_7 a1_8) ?_ ?_
  rotate_left
  · intro hCont
    refine two_ (i := 4) (j := 5) (Ni := some 5) (Nj := some 6) #[true, true, true, true, true, false, false, false] #[true, true, true, true, false, true, false, false] rfl rfl rfl rfl (two_of impl_Held_order.tab1 (by kernel_rfl)) (by decide) (by decide) (fun K hK => ?_) (fun K hK => ?_)
    · skip
      refine box_step ?hg (N := 5) ?hd (cs := #[.int .i64 0, .int .i64 0, .int .i64 0, .int .i64 0, .int .i64 0, .int .i64 0, .bool false]) (t := 59) ?hr ?_; (case hd => rfl); (case hg => rfl); (case hr => first | (go_simp; done) | (go_simp; rfl))
      intro g1 hg1 w5 hbox1 hb1
      have BX2 := Aside0.mk (BX1.out.far hb1)
      refine hK.out _ _ BX2.out.held (fun hHeld => ?_)
      clear hK K
      refine norm_ (a' := ?_) ?_ ?_
      rotate_left
      · show Act.put _ (some 5) _ = _
        simp only [Act.put, List.setIfInBounds_toArray, List.set_cons_zero, List.set_cons_succ, i64_w, i32_w]
        rfl
      refine one_ (i := 5) (N := some 6) #[true, true, true, true, true, true, false, false] rfl rfl (one_of impl_Held_order.tab1 (by kernel_rfl)) (by decide) (fun K hK => ?_)
      refine box_step ?hg (N := 6) ?hd (cs := #[.int .i64 0, .int .i64 0, .int .i64 0, .int .i64 0, .int .i64 0, .int .i64 0, .bool false]) (t := 59) ?hr ?_; (case hd => rfl); (case hg => rfl); (case hr => first | (go_simp; done) | (go_simp; rfl))
      intro g2 hg2 w6 hbox2 hb2
      have BX3 := Aside0.mk (BX2.out.far hb2)
      refine hK.out _ _ BX3.out.held (fun hHeld => ?_)
      clear hK K
      refine norm_ (a' := ?_) ?_ ?_
      rotate_left
      · show Act.put _ (some 6) _ = _
        simp only [Act.put, List.setIfInBounds_toArray, List.set_cons_zero, List.set_cons_succ, i64_w, i32_w]
        rfl
      exact norm_ (by simp only [putAll, Act.put, List.setIfInBounds_toArray, List.set_cons_zero, List.set_cons_succ]) (hCont (g1, g2) _ ⟨hHeld, (blk_below hbox1 hb2), hbox2, (by have h_ := blk_lt hbox1; omega), (by rw [hg1]; exact blk_lt BX1.out.bb), (by rw [hg2]; exact blk_lt BX2.out.bb), BX3.out⟩)
    · skip
      refine box_step ?hg (N := 6) ?hd (cs := #[.int .i64 0, .int .i64 0, .int .i64 0, .int .i64 0, .int .i64 0, .int .i64 0, .bool false]) (t := 59) ?hr ?_; (case hd => rfl); (case hg => rfl); (case hr => first | (go_simp; done) | (go_simp; rfl))
      intro g1 hg1 w5 hbox1 hb1
      have BX2 := Aside0.mk (BX1.out.far hb1)
      refine hK.out _ _ BX2.out.held (fun hHeld => ?_)
      clear hK K
      refine norm_ (a' := ?_) ?_ ?_
      rotate_left
      · show Act.put _ (some 6) _ = _
        simp only [Act.put, List.setIfInBounds_toArray, List.set_cons_zero, List.set_cons_succ, i64_w, i32_w]
        rfl
      refine one_ (i := 4) (N := some 5) #[true, true, true, true, true, true, false, false] rfl rfl (one_of impl_Held_order.tab1 (by kernel_rfl)) (by decide) (fun K hK => ?_)
      refine box_step ?hg (N := 5) ?hd (cs := #[.int .i64 0, .int .i64 0, .int .i64 0, .int .i64 0, .int .i64 0, .int .i64 0, .bool false]) (t := 59) ?hr ?_; (case hd => rfl); (case hg => rfl); (case hr => first | (go_simp; done) | (go_simp; rfl))
      intro g2 hg2 w6 hbox2 hb2
      have BX3 := Aside0.mk (BX2.out.far hb2)
      refine hK.out _ _ BX3.out.held (fun hHeld => ?_)
      clear hK K
      refine norm_ (a' := ?_) ?_ ?_
      rotate_left
      · show Act.put _ (some 5) _ = _
        simp only [Act.put, List.setIfInBounds_toArray, List.set_cons_zero, List.set_cons_succ, i64_w, i32_w]
        rfl
      exact norm_ (by simp only [putAll, Act.put, List.setIfInBounds_toArray, List.set_cons_zero, List.set_cons_succ]) (hCont (g2, g1) _ ⟨hHeld, hbox2, (blk_below hbox1 hb2), (by have h_ := blk_lt hbox1; omega), (by rw [hg2]; exact blk_lt BX2.out.bb), (by rw [hg1]; exact blk_lt BX1.out.bb), BX3.out⟩)
  rintro ⟨g5, g6⟩ W2 ⟨hHeld, hz5, hz6, hne, hl5, hl6, BX2_⟩
  have hne' : g6 ≠ g5 := Ne.symm hne
  have hl5' : w.heap.size + 1 < g5 := hl5
  have hl6' : w.heap.size + 1 < g6 := hl6
  have hz5' : W2.heap[g5]? = some (.cells #[.int .i64 0, .int .i64 0, .int .i64 0, .int .i64 0, .int .i64 0, .int .i64 0, .bool false] 59 (0, 0)) := hz5
  have hz6' : W2.heap[g6]? = some (.cells #[.int .i64 0, .int .i64 0, .int .i64 0, .int .i64 0, .int .i64 0, .int .i64 0, .bool false] 59 (0, 0)) := hz6
  clear hz5 hz6 hl5 hl6
  have HNE : g5 ≠ g6 := hne
  clear hne BX1
  refine norm_ (a' := ?_) ?_ ?_
  rotate_left
  · simp only [putAll, Act.put, List.setIfInBounds_toArray, List.set_cons_zero, List.set_cons_succ]
    rfl
  refine one_ (i := 6) (N := none) #[true, true, true, true, true, true, true, false] rfl rfl (one_of impl_Held_order.tab1 (by kernel_rfl)) (by decide) (fun K hK => ?_)
  have hs0 := (blk_cell hz5' 0).trans rfl
  have hf0 := blk_frozen hz5' 0
  have hs1 := (blk_cell hz5' 1).trans rfl
  have hf1 := blk_frozen hz5' 1
  have hs2 := (blk_cell hz5' 2).trans rfl
  have hf2 := blk_frozen hz5' 2
  have hs3 := (blk_cell hz5' 3).trans rfl
  have hf3 := blk_frozen hz5' 3
  have hs4 := (blk_cell hz5' 4).trans rfl
  have hf4 := blk_frozen hz5' 4
  have hs5 := (blk_cell hz5' 5).trans rfl
  have hf5 := blk_frozen hz5' 5
  have hs6 := (blk_cell hz5' 6).trans rfl
  have hf6 := blk_frozen hz5' 6
  refine skip_ (w1 := ?_) (by rfl) rfl ?_ ?_
  rotate_left
  · go_simp
    rfl
  have hz5 := impl_Held_order.put hz5' (.int .i64 a0_2) (.int .i64 a0_3) (.int .i64 a0_4) (.int .i64 a0_5) (.int .i64 a0_6) (.int .i64 a0_7) (.bool a0_8)
  have hz6 := impl_Held_order.far7 hne' hz6' (.int .i64 a0_2) (.int .i64 a0_3) (.int .i64 a0_4) (.int .i64 a0_5) (.int .i64 a0_6) (.int .i64 a0_7) (.bool a0_8)
  have BX3 := BX2_.set7 (g := g5) (by omega) (by omega) (by omega) (.int .i64 a0_2) (.int .i64 a0_3) (.int .i64 a0_4) (.int .i64 a0_5) (.int .i64 a0_6) (.int .i64 a0_7) (.bool a0_8)
  refine hK.out _ _ BX3.held (fun hHeld => ?_)
  clear hK K hz5' hz6' BX2_ hs0 hf0 hs1 hf1 hs2 hf2 hs3 hf3 hs4 hf4 hs5 hf5 hs6 hf6
  generalize (((((((W2.setCell ⟨g5, 0, none⟩ (.int .i64 a0_2)).setCell ⟨g5, 1, none⟩ (.int .i64 a0_3)).setCell ⟨g5, 2, none⟩ (.int .i64 a0_4)).setCell ⟨g5, 3, none⟩ (.int .i64 a0_5)).setCell ⟨g5, 4, none⟩ (.int .i64 a0_6)).setCell ⟨g5, 5, none⟩ (.int .i64 a0_7)).setCell ⟨g5, 6, none⟩ (.bool a0_8)) = W3 at hz5 hz6 BX3 hHeld ⊢
  refine one_ (i := 7) (N := none) #[true, true, true, true, true, true, true, true] rfl rfl (one_of impl_Held_order.tab1 (by kernel_rfl)) (by decide) (fun K hK => ?_)
  have hs0 := (blk_cell hz6 0).trans rfl
  have hf0 := blk_frozen hz6 0
  have hs1 := (blk_cell hz6 1).trans rfl
  have hf1 := blk_frozen hz6 1
  have hs2 := (blk_cell hz6 2).trans rfl
  have hf2 := blk_frozen hz6 2
  have hs3 := (blk_cell hz6 3).trans rfl
  have hf3 := blk_frozen hz6 3
  have hs4 := (blk_cell hz6 4).trans rfl
  have hf4 := blk_frozen hz6 4
  have hs5 := (blk_cell hz6 5).trans rfl
  have hf5 := blk_frozen hz6 5
  have hs6 := (blk_cell hz6 6).trans rfl
  have hf6 := blk_frozen hz6 6
  refine skip_ (w1 := ?_) (by rfl) rfl ?_ ?_
  rotate_left
  · go_simp
    rfl
  have hy5 := impl_Held_order.far7 HNE hz5 (.int .i64 a1_2) (.int .i64 a1_3) (.int .i64 a1_4) (.int .i64 a1_5) (.int .i64 a1_6) (.int .i64 a1_7) (.bool a1_8)
  have hy6 := impl_Held_order.put hz6 (.int .i64 a1_2) (.int .i64 a1_3) (.int .i64 a1_4) (.int .i64 a1_5) (.int .i64 a1_6) (.int .i64 a1_7) (.bool a1_8)
  have BX4 := BX3.set7 (g := g6) (by omega) (by omega) (by omega) (.int .i64 a1_2) (.int .i64 a1_3) (.int .i64 a1_4) (.int .i64 a1_5) (.int .i64 a1_6) (.int .i64 a1_7) (.bool a1_8)
  refine hK.out _ _ BX4.held (fun hHeld => ?_)
  clear hK K hz5 hz6 BX3 hs0 hf0 hs1 hf1 hs2 hf2 hs3 hf3 hs4 hf4 hs5 hf5 hs6 hf6
  refine done_ (done_of impl_Held_order.tab1 (by kernel_rfl)) ?_
  generalize (((((((W3.setCell ⟨g6, 0, none⟩ (.int .i64 a1_2)).setCell ⟨g6, 1, none⟩ (.int .i64 a1_3)).setCell ⟨g6, 2, none⟩ (.int .i64 a1_4)).setCell ⟨g6, 3, none⟩ (.int .i64 a1_5)).setCell ⟨g6, 4, none⟩ (.int .i64 a1_6)).setCell ⟨g6, 5, none⟩ (.int .i64 a1_7)).setCell ⟨g6, 6, none⟩ (.bool a1_8)) = W4 at hy5 hy6 BX4 hHeld ⊢
  clear hHeld
  have p0 := (blk_cell BX4.ba 0).trans rfl
  have p1 := (blk_cell BX4.bb 0).trans rfl
  have x0 := (blk_cell hy5 0).trans rfl
  have y0 := (blk_cell hy6 0).trans rfl
  have x1 := (blk_cell hy5 1).trans rfl
  have y1 := (blk_cell hy6 1).trans rfl
  have x2 := (blk_cell hy5 2).trans rfl
  have y2 := (blk_cell hy6 2).trans rfl
  have x4 := (blk_cell hy5 4).trans rfl
  have y4 := (blk_cell hy6 4).trans rfl
  have BL := Aside0.mk BX4.bl
  clear BX4 hy5 hy6
  have BL1 := Aside0.mk (below_drew1 BL.out)
  go_upto_region 2 with (fail)
  go_still_tail 25, (by kernel_rfl)
  still_call (impl_Held_order.cmp _ _ _ Q1.out _)
  repeat still_step
  still_call (impl_Held_order.cmp _ _ _ Q2.out _)
  repeat still_step
  still_call (impl_Held_order.cmp _ _ _ Q3.out _)
  repeat still_step
  still_call (impl_Held_order.cmp _ _ _ Q4.out _)
  repeat still_step
  still_call (impl_Held_order.cmp _ _ _ Q5.out _)
  refine wpStill_nil ?_
  change wpList _ _ _ _ _ W4.drew
  generalize W4.drew = W5 at BL1 ⊢
  go_wp2_with fail
  go_at_call 157
  have hcall := cmp_Or_int.calls k (some ⟨W5.heap.size, 0, none⟩) 5 [t1, t2, t3, t4, t5] r _ (impl_Held_order.row5 W5 t1 t2 t3 t4 t5) (by simp) H.out
  simp only [List.length_cons, List.length_nil, Nat.zero_add, Nat.reduceAdd] at hcall
  with_reducible refine hcall.mono ?_
  rintro e w' ⟨rfl, hd⟩
  obtain ⟨n, hn⟩ := hd.out
  subst hn
  clear hcall hd
  go_wp2_with fail
  go_ret
  exact ⟨rfl, by first | exact pw_below_drewN (below_alloc BL1.out _) _ | exact below_alloc (pw_below_drewN BL1.out _) _⟩


end Go.Proofs.Ytkbhdiambabnnaa.PFnExactRibRight
