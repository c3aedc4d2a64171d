-- Written by a program of this session (wip/ep), out of the translation. Lean checks it.
import Derived.Test.YtkbhdiambabnnaaPFnExactRibRightx0
import Derived.Test.YtkbhdiambabnnaaPFnExactRibRightx4
import Derived.Test.YtkbhdiambabnnaaPFnExactRibRightx5
namespace Go.Proofs.Ytkbhdiambabnnaa.PFnExactRibRight
open Go.RowKit Go.Proofs.YtkbhdiambabnnaaW.PrintWords Go.Proofs.YtkbhdiambabnnaaW.PrintLast Go.Proofs.YtkbhdiambabnnaaW.PrintMore
attribute [local go_sem] max2_int min2_int max_two min_two max_three min_three max_four min_four   -- for this text's walks alone
set_option linter.unusedVariables false
set_option linter.unusedSimpArgs false

/-! ### impl_RibRight: function 65 -/
def impl_RibRight.l0 : Nat → List (S135) → List (S135) → Int → Int → Option (Bool)
  | 0, _, _, _, _ => none
  | k + 1, x0, x5, x6, x7 => if x7 < x6 then (if 0 ≤ x7 then (if x7 < (x5.length : Int) then ((impl_isPeer.f ((rd_T135 x5 x7).f0)).bind fun t167 => (if t167 = true then ((impl_RouteRight.f k ((rd_T135 x5 x7).f2.f0) ((rd_T135 x5 x7).f2.f1) ((rd_T135 x5 x7).f2.f2) ((rd_T135 x5 x7).f2.f3) ((rd_T135 x5 x7).f2.f4) ((rd_T135 x5 x7).f2.f5) ((rd_T135 x5 x7).f2.f6)).bind fun t168 => (if t168 = true then (if x7 > 0 then (if 0 ≤ (wrap64 (x7 - 1)) then (if (wrap64 (x7 - 1)) < (x0.length : Int) then ((impl_Held_order.f k ((rd_T135 x0 (wrap64 (x7 - 1))).f0) ((rd_T135 x0 (wrap64 (x7 - 1))).f1) ((rd_T135 x0 (wrap64 (x7 - 1))).f2.f0) ((rd_T135 x0 (wrap64 (x7 - 1))).f2.f1) ((rd_T135 x0 (wrap64 (x7 - 1))).f2.f2) ((rd_T135 x0 (wrap64 (x7 - 1))).f2.f3) ((rd_T135 x0 (wrap64 (x7 - 1))).f2.f4) ((rd_T135 x0 (wrap64 (x7 - 1))).f2.f5) ((rd_T135 x0 (wrap64 (x7 - 1))).f2.f6) ((rd_T135 x5 x7).f0) ((rd_T135 x5 x7).f1) ((rd_T135 x5 x7).f2.f0) ((rd_T135 x5 x7).f2.f1) ((rd_T135 x5 x7).f2.f2) ((rd_T135 x5 x7).f2.f3) ((rd_T135 x5 x7).f2.f4) ((rd_T135 x5 x7).f2.f5) ((rd_T135 x5 x7).f2.f6)).bind fun t170 => (if t170 ≥ 0 then (some false) else (impl_RibRight.l0 k x0 x5 x6 (wrap64 (x7 + 1))))) else (none)) else (none)) else (impl_RibRight.l0 k x0 x5 x6 (wrap64 (x7 + 1)))) else (some false))) else (some false))) else (none)) else (none)) else (some (decide ((x0.length : Int) ≤ 60)))
def impl_RibRight.f (k : Nat) (l0 : List (S135)) : Option (Bool) := impl_RibRight.l0 k l0 l0 (l0.length : Int) 0
theorem impl_RibRight.mono_l : ∀ k, (∀ y0 y1 y2 y3, LeO (impl_RibRight.l0 k y0 y1 y2 y3) (impl_RibRight.l0 (k + 1) y0 y1 y2 y3))
  | 0 => fun _ _ _ _ r h => by simp [impl_RibRight.l0] at h
  | k + 1 => by
    have ih0 := impl_RibRight.mono_l k
    · intro y0 y1 y2 y3
      unfold impl_RibRight.l0
      repeat' first
      | (with_reducible exact ih0 _ _ _ _)
      | (with_reducible exact impl_Held_order.mono _ _ _ _ _ _ _ _ _ _ _ _ _ _ _ _ _ _ _)
      | (with_reducible exact impl_RouteRight.mono _ _ _ _ _ _ _ _)
      | (with_reducible exact LeO.refl _)
      | (with_reducible exact LeO.none _)
      | (with_reducible refine LeO.ite ?_ ?_)
      | (with_reducible refine LeO.bind ?_ (fun _ => ?_))
      | exact ih0 _ _ _ _
      | exact impl_Held_order.mono _ _ _ _ _ _ _ _ _ _ _ _ _ _ _ _ _ _ _
      | exact impl_RouteRight.mono _ _ _ _ _ _ _ _
      | exact LeO.none _
      | refine LeO.ite ?_ ?_
      | refine LeO.bind ?_ (fun _ => ?_)
theorem impl_RibRight.mono : ∀ a0 k, LeO (impl_RibRight.f k a0) (impl_RibRight.f (k + 1) a0) := by
  intro a0 k
  have ih0 := impl_RibRight.mono_l k
  unfold impl_RibRight.f
  repeat' first
      | (with_reducible exact ih0 _ _ _ _)
      | (with_reducible exact impl_Held_order.mono _ _ _ _ _ _ _ _ _ _ _ _ _ _ _ _ _ _ _)
      | (with_reducible exact impl_RouteRight.mono _ _ _ _ _ _ _ _)
      | (with_reducible exact LeO.refl _)
      | (with_reducible exact LeO.none _)
      | (with_reducible refine LeO.ite ?_ ?_)
      | (with_reducible refine LeO.bind ?_ (fun _ => ?_))
      | exact ih0 _ _ _ _
      | exact impl_Held_order.mono _ _ _ _ _ _ _ _ _ _ _ _ _ _ _ _ _ _ _
      | exact impl_RouteRight.mono _ _ _ _ _ _ _ _
      | exact LeO.none _
      | refine LeO.ite ?_ ?_
      | refine LeO.bind ?_ (fun _ => ?_)
def impl_RibRight.T4 : Bool × List (List Nat × List Nat) := (true, [([], []), ([0], [0]), ([1], [1]), ([2], [2]), ([3, 2], [3]), ([4], [4]), ([5, 4], [4, 5]), ([6, 4, 4], [4, 6]), ([7, 4], [4, 7]), ([4, 8], [4, 8]), ([9, 7], [9]), ([10], [10]), ([11, 10], [10, 11]), ([12, 10, 10], [10, 12]), ([13], [13]), ([13], [13]), ([15, 13], [13, 15]), ([14, 16, 13], [13, 14, 16]), ([17, 13], [13, 17]), ([13], [13]), ([18, 19, 13, 13], [13, 18, 19]), ([20, 13], [13, 20]), ([13, 21, 10], [10, 13, 21]), ([10, 22], [10, 22])])
def impl_RibRight.B4 : List Nat := [0, 1, 3, 7, 15, 31, 63, 127, 255, 511, 1023, 2047, 4095, 8191, 16383, 16383, 49151, 131071, 262143, 16383, 1048575, 2097151, 4194303, 8388607]
theorem impl_RibRight.tab4 : rtab .any (opsOf Try.f65 4) = impl_RibRight.T4 := by kernel_rfl
theorem impl_RibRight.bits4 : waitsOk impl_RibRight.T4.2 impl_RibRight.B4 = true := by kernel_rfl
set_option maxHeartbeats 8000000 in
set_option maxRecDepth 100000 in
theorem impl_RibRight.calls (k : Nat) (A0 : Option Addr) (c0 : Nat) (l0 : List (S135)) (r : Bool) (w : World) (hr0 : Kd.C k135 w A0 l0.length l0) (hc0 : l0.length ≤ c0) (h : impl_RibRight.f k l0 = some r) :
    Calls Try.prog 65 #[.slice A0 l0.length c0] w fun e w' => e = .returned (.bool r) ∧ Below w.heap.size w w' := by
  have hu135 := Try.underlying135
  have hu59 := Try.underlying59
  have HR0 := Aside0.mk hr0
  have HC0 := Aside0.mk hc0
  clear hr0 hc0
  have HB := Aside0.mk (Below.refl w.heap.size w)
  have H : (impl_RibRight.l0 k l0 l0 (l0.length : Int) 0) = some r := h
  clear h
  have H' := Aside0.mk H
  clear H
  go_enter Try.func65, Try.ntmps65
  go_wp2
  go_loopg [7] k (fun kq v7 w' => ∃ (x7_1 : Int), v7 = .int .i64 x7_1 ∧ Aside0 (impl_RibRight.l0 kq l0 l0 (l0.length : Int) x7_1 = some r) ∧ Aside0 (kq ≤ k) ∧ Aside0 (Below w.heap.size w w'))
  case atStart => exact ⟨(0), (by first | rfl | (simp; done) | (simp [*]; done)), H', ⟨Nat.le_refl _⟩, ⟨by repeat (first | (with_reducible first | exact HB.out | apply below_alloc | apply pw_below_drewN | apply below_drew1) | exact HB.out)⟩⟩
  case round =>
    clear H'
    obtain ⟨x7_1, rfl, HA, HK1, HB⟩ := hrel
    cases gk with
    | zero => exact absurd HA.out (by simp [impl_RibRight.l0])
    | succ k1 =>
      have H := HA.out
      clear HA
      simp only [impl_RibRight.l0] at H
      by_cases c2 : x7_1 < (l0.length : Int)
      · rw [if_pos c2] at H
        have c2b0 : decide (x7_1 < (l0.length : Int)) = true := decide_eq_true c2
        clear c2
        by_cases c3 : 0 ≤ x7_1
        · rw [if_pos c3] at H
          have c3b0 : decide (0 ≤ x7_1) = true := decide_eq_true c3
          clear c3
          by_cases c4 : x7_1 < (l0.length : Int)
          · rw [if_pos c4] at H
            have c4b0 : decide (x7_1 < (l0.length : Int)) = true := decide_eq_true c4
            clear c4
            replace H := Option.bind_eq_some_iff.mp H
            obtain ⟨t167, A50, H⟩ := H
            replace H : (if t167 = true then ((impl_RouteRight.f k1 ((rd_T135 l0 x7_1).f2.f0) ((rd_T135 l0 x7_1).f2.f1) ((rd_T135 l0 x7_1).f2.f2) ((rd_T135 l0 x7_1).f2.f3) ((rd_T135 l0 x7_1).f2.f4) ((rd_T135 l0 x7_1).f2.f5) ((rd_T135 l0 x7_1).f2.f6)).bind fun t168 => (if t168 = true then (if x7_1 > 0 then (if 0 ≤ (wrap64 (x7_1 - 1)) then (if (wrap64 (x7_1 - 1)) < (l0.length : Int) then ((impl_Held_order.f k1 ((rd_T135 l0 (wrap64 (x7_1 - 1))).f0) ((rd_T135 l0 (wrap64 (x7_1 - 1))).f1) ((rd_T135 l0 (wrap64 (x7_1 - 1))).f2.f0) ((rd_T135 l0 (wrap64 (x7_1 - 1))).f2.f1) ((rd_T135 l0 (wrap64 (x7_1 - 1))).f2.f2) ((rd_T135 l0 (wrap64 (x7_1 - 1))).f2.f3) ((rd_T135 l0 (wrap64 (x7_1 - 1))).f2.f4) ((rd_T135 l0 (wrap64 (x7_1 - 1))).f2.f5) ((rd_T135 l0 (wrap64 (x7_1 - 1))).f2.f6) ((rd_T135 l0 x7_1).f0) ((rd_T135 l0 x7_1).f1) ((rd_T135 l0 x7_1).f2.f0) ((rd_T135 l0 x7_1).f2.f1) ((rd_T135 l0 x7_1).f2.f2) ((rd_T135 l0 x7_1).f2.f3) ((rd_T135 l0 x7_1).f2.f4) ((rd_T135 l0 x7_1).f2.f5) ((rd_T135 l0 x7_1).f2.f6)).bind fun t170 => (if t170 ≥ 0 then (some false) else (impl_RibRight.l0 k1 l0 l0 (l0.length : Int) (wrap64 (x7_1 + 1))))) else (none)) else (none)) else (impl_RibRight.l0 k1 l0 l0 (l0.length : Int) (wrap64 (x7_1 + 1)))) else (some false))) else (some false)) = some r := H
            have A5 := Aside0.mk A50
            clear A50
            by_cases c6 : t167 = true
            · subst c6
              have H1 : ((impl_RouteRight.f k1 ((rd_T135 l0 x7_1).f2.f0) ((rd_T135 l0 x7_1).f2.f1) ((rd_T135 l0 x7_1).f2.f2) ((rd_T135 l0 x7_1).f2.f3) ((rd_T135 l0 x7_1).f2.f4) ((rd_T135 l0 x7_1).f2.f5) ((rd_T135 l0 x7_1).f2.f6)).bind fun t168 => (if t168 = true then (if x7_1 > 0 then (if 0 ≤ (wrap64 (x7_1 - 1)) then (if (wrap64 (x7_1 - 1)) < (l0.length : Int) then ((impl_Held_order.f k1 ((rd_T135 l0 (wrap64 (x7_1 - 1))).f0) ((rd_T135 l0 (wrap64 (x7_1 - 1))).f1) ((rd_T135 l0 (wrap64 (x7_1 - 1))).f2.f0) ((rd_T135 l0 (wrap64 (x7_1 - 1))).f2.f1) ((rd_T135 l0 (wrap64 (x7_1 - 1))).f2.f2) ((rd_T135 l0 (wrap64 (x7_1 - 1))).f2.f3) ((rd_T135 l0 (wrap64 (x7_1 - 1))).f2.f4) ((rd_T135 l0 (wrap64 (x7_1 - 1))).f2.f5) ((rd_T135 l0 (wrap64 (x7_1 - 1))).f2.f6) ((rd_T135 l0 x7_1).f0) ((rd_T135 l0 x7_1).f1) ((rd_T135 l0 x7_1).f2.f0) ((rd_T135 l0 x7_1).f2.f1) ((rd_T135 l0 x7_1).f2.f2) ((rd_T135 l0 x7_1).f2.f3) ((rd_T135 l0 x7_1).f2.f4) ((rd_T135 l0 x7_1).f2.f5) ((rd_T135 l0 x7_1).f2.f6)).bind fun t170 => (if t170 ≥ 0 then (some false) else (impl_RibRight.l0 k1 l0 l0 (l0.length : Int) (wrap64 (x7_1 + 1))))) else (none)) else (none)) else (impl_RibRight.l0 k1 l0 l0 (l0.length : Int) (wrap64 (x7_1 + 1)))) else (some false))) = some r := by rw [if_pos rfl] at H; exact H
              clear H
              have H := H1
              clear H1
              replace H := Option.bind_eq_some_iff.mp H
              obtain ⟨t168, A70, H⟩ := H
              replace H : (if t168 = true then (if x7_1 > 0 then (if 0 ≤ (wrap64 (x7_1 - 1)) then (if (wrap64 (x7_1 - 1)) < (l0.length : Int) then ((impl_Held_order.f k1 ((rd_T135 l0 (wrap64 (x7_1 - 1))).f0) ((rd_T135 l0 (wrap64 (x7_1 - 1))).f1) ((rd_T135 l0 (wrap64 (x7_1 - 1))).f2.f0) ((rd_T135 l0 (wrap64 (x7_1 - 1))).f2.f1) ((rd_T135 l0 (wrap64 (x7_1 - 1))).f2.f2) ((rd_T135 l0 (wrap64 (x7_1 - 1))).f2.f3) ((rd_T135 l0 (wrap64 (x7_1 - 1))).f2.f4) ((rd_T135 l0 (wrap64 (x7_1 - 1))).f2.f5) ((rd_T135 l0 (wrap64 (x7_1 - 1))).f2.f6) ((rd_T135 l0 x7_1).f0) ((rd_T135 l0 x7_1).f1) ((rd_T135 l0 x7_1).f2.f0) ((rd_T135 l0 x7_1).f2.f1) ((rd_T135 l0 x7_1).f2.f2) ((rd_T135 l0 x7_1).f2.f3) ((rd_T135 l0 x7_1).f2.f4) ((rd_T135 l0 x7_1).f2.f5) ((rd_T135 l0 x7_1).f2.f6)).bind fun t170 => (if t170 ≥ 0 then (some false) else (impl_RibRight.l0 k1 l0 l0 (l0.length : Int) (wrap64 (x7_1 + 1))))) else (none)) else (none)) else (impl_RibRight.l0 k1 l0 l0 (l0.length : Int) (wrap64 (x7_1 + 1)))) else (some false)) = some r := H
              have A7 := Aside0.mk A70
              clear A70
              by_cases c8 : t168 = true
              · subst c8
                have H1 : (if x7_1 > 0 then (if 0 ≤ (wrap64 (x7_1 - 1)) then (if (wrap64 (x7_1 - 1)) < (l0.length : Int) then ((impl_Held_order.f k1 ((rd_T135 l0 (wrap64 (x7_1 - 1))).f0) ((rd_T135 l0 (wrap64 (x7_1 - 1))).f1) ((rd_T135 l0 (wrap64 (x7_1 - 1))).f2.f0) ((rd_T135 l0 (wrap64 (x7_1 - 1))).f2.f1) ((rd_T135 l0 (wrap64 (x7_1 - 1))).f2.f2) ((rd_T135 l0 (wrap64 (x7_1 - 1))).f2.f3) ((rd_T135 l0 (wrap64 (x7_1 - 1))).f2.f4) ((rd_T135 l0 (wrap64 (x7_1 - 1))).f2.f5) ((rd_T135 l0 (wrap64 (x7_1 - 1))).f2.f6) ((rd_T135 l0 x7_1).f0) ((rd_T135 l0 x7_1).f1) ((rd_T135 l0 x7_1).f2.f0) ((rd_T135 l0 x7_1).f2.f1) ((rd_T135 l0 x7_1).f2.f2) ((rd_T135 l0 x7_1).f2.f3) ((rd_T135 l0 x7_1).f2.f4) ((rd_T135 l0 x7_1).f2.f5) ((rd_T135 l0 x7_1).f2.f6)).bind fun t170 => (if t170 ≥ 0 then (some false) else (impl_RibRight.l0 k1 l0 l0 (l0.length : Int) (wrap64 (x7_1 + 1))))) else (none)) else (none)) else (impl_RibRight.l0 k1 l0 l0 (l0.length : Int) (wrap64 (x7_1 + 1)))) = some r := by rw [if_pos rfl] at H; exact H
                clear H
                have H := H1
                clear H1
                by_cases c9 : x7_1 > 0
                · rw [if_pos c9] at H
                  have c9b0 : decide (0 < x7_1) = true := decide_eq_true c9
                  clear c9
                  obtain ⟨ji10, hji10⟩ : ∃ j_ : Int, (wrap64 (x7_1 - 1)) = j_ := ⟨_, rfl⟩
                  replace H : (if 0 ≤ (ji10) then (if (ji10) < (l0.length : Int) then ((impl_Held_order.f k1 ((rd_T135 l0 (ji10)).f0) ((rd_T135 l0 (ji10)).f1) ((rd_T135 l0 (ji10)).f2.f0) ((rd_T135 l0 (ji10)).f2.f1) ((rd_T135 l0 (ji10)).f2.f2) ((rd_T135 l0 (ji10)).f2.f3) ((rd_T135 l0 (ji10)).f2.f4) ((rd_T135 l0 (ji10)).f2.f5) ((rd_T135 l0 (ji10)).f2.f6) ((rd_T135 l0 x7_1).f0) ((rd_T135 l0 x7_1).f1) ((rd_T135 l0 x7_1).f2.f0) ((rd_T135 l0 x7_1).f2.f1) ((rd_T135 l0 x7_1).f2.f2) ((rd_T135 l0 x7_1).f2.f3) ((rd_T135 l0 x7_1).f2.f4) ((rd_T135 l0 x7_1).f2.f5) ((rd_T135 l0 x7_1).f2.f6)).bind fun t170 => (if t170 ≥ 0 then (some false) else (impl_RibRight.l0 k1 l0 l0 (l0.length : Int) (wrap64 (x7_1 + 1))))) else (none)) else (none)) = some r := by first | (rw [hji10] at H; exact H) | (simp only [hji10] at H ⊢; exact H)
                  (try rw [hji10] at A5)
                  (try rw [hji10] at A7)
                  have hji10w : (IntKind.i64.wrap (x7_1 - 1)) = ji10 := (i64_w _).trans hji10
                  by_cases c11 : 0 ≤ (ji10)
                  · rw [if_pos c11] at H
                    have c11b0 : decide (0 ≤ (ji10)) = true := decide_eq_true c11
                    clear c11
                    by_cases c12 : (ji10) < (l0.length : Int)
                    · rw [if_pos c12] at H
                      have c12b0 : decide ((ji10) < (l0.length : Int)) = true := decide_eq_true c12
                      clear c12
                      replace H := Option.bind_eq_some_iff.mp H
                      obtain ⟨t170, A130, H⟩ := H
                      replace H : (if t170 ≥ 0 then (some false) else (impl_RibRight.l0 k1 l0 l0 (l0.length : Int) (wrap64 (x7_1 + 1)))) = some r := H
                      have A13 := Aside0.mk A130
                      clear A130
                      by_cases c14 : t170 ≥ 0
                      · rw [if_pos c14] at H
                        have c14b0 : decide (0 ≤ t170) = true := decide_eq_true c14
                        clear c14
                        obtain rfl := Option.some.inj H
                        have p165 : 0 ≤ (x7_1 : Int) := of_decide_eq_true (by first | (with_reducible assumption) | assumption)
                        have q165 : x7_1 < (l0.length : Int) := of_decide_eq_true (by first | (with_reducible assumption) | assumption)
                        obtain ⟨ad165, e165, hx165_0, hx165_1, hx165_2, hx165_3, hx165_4, hx165_5, hx165_6, hx165_7, hx165_8⟩ := at_T135 HR0.out x7_1 p165 q165
                        cases e165
                        replace hx165_0 := (HB.out.cell (World.block_lt_of_cell? w _ hx165_0)).trans hx165_0
                        replace hx165_1 := (HB.out.cell (World.block_lt_of_cell? w _ hx165_1)).trans hx165_1
                        replace hx165_2 := (HB.out.cell (World.block_lt_of_cell? w _ hx165_2)).trans hx165_2
                        replace hx165_3 := (HB.out.cell (World.block_lt_of_cell? w _ hx165_3)).trans hx165_3
                        replace hx165_4 := (HB.out.cell (World.block_lt_of_cell? w _ hx165_4)).trans hx165_4
                        replace hx165_5 := (HB.out.cell (World.block_lt_of_cell? w _ hx165_5)).trans hx165_5
                        replace hx165_6 := (HB.out.cell (World.block_lt_of_cell? w _ hx165_6)).trans hx165_6
                        replace hx165_7 := (HB.out.cell (World.block_lt_of_cell? w _ hx165_7)).trans hx165_7
                        replace hx165_8 := (HB.out.cell (World.block_lt_of_cell? w _ hx165_8)).trans hx165_8
                        replace p165 := eq_true p165
                        replace q165 := eq_true q165
                        try go_wp2_with (first | ((with_reducible refine gate_dst (N := 4) rfl ?_); refine box_event ?hg (N := 4) ?hd (cs := #[.int .i64 0, .bool false, .int .i64 0, .int .i64 0, .int .i64 0, .int .i64 0, .int .i64 0, .int .i64 0, .bool false]) (t := 135) ?hr ?_; (case hd => rfl); (case hg => rfl); (case hr => first | (go_simp; done) | (go_simp; rfl)); intro gb166 hg w15 hbox hb; have n0_ := Aside0.mk (below_step (by repeat (first | (with_reducible first | exact HB.out | apply below_alloc | apply pw_below_drewN | apply below_drew1) | exact HB.out)) hb); have n1_ := Aside0.mk (hbox); have n2_ := Aside0.mk ((by rw [hg]; exact (below_size (by repeat (first | (with_reducible first | exact HB.out | apply below_alloc | apply pw_below_drewN | apply below_drew1) | exact HB.out))) : w.heap.size ≤ gb166)); have n3_ := Aside0.mk ((by rw [hg]; exact (below_size (by repeat (first | (with_reducible first | exact HB.out | apply below_alloc | apply pw_below_drewN | apply below_drew1) | exact HB.out))) : w.heap.size ≤ gb166)); clear HB; have HB := n0_; have BK166 := n1_; have GW166 := n2_; have GE166 := n3_; clear n0_ n1_ n2_ n3_; clear hb hbox hg; have hcz16_0 : w15.cell? ⟨gb166, 0, none⟩ = some (.int .i64 0) := (blk_cell BK166.out 0).trans rfl; have hcz16_1 : w15.cell? ⟨gb166, 1, none⟩ = some (.bool false) := (blk_cell BK166.out 1).trans rfl; have hcz16_2 : w15.cell? ⟨gb166, 2, none⟩ = some (.int .i64 0) := (blk_cell BK166.out 2).trans rfl; have hcz16_3 : w15.cell? ⟨gb166, 3, none⟩ = some (.int .i64 0) := (blk_cell BK166.out 3).trans rfl; have hcz16_4 : w15.cell? ⟨gb166, 4, none⟩ = some (.int .i64 0) := (blk_cell BK166.out 4).trans rfl; have hcz16_5 : w15.cell? ⟨gb166, 5, none⟩ = some (.int .i64 0) := (blk_cell BK166.out 5).trans rfl; have hcz16_6 : w15.cell? ⟨gb166, 6, none⟩ = some (.int .i64 0) := (blk_cell BK166.out 6).trans rfl; have hcz16_7 : w15.cell? ⟨gb166, 7, none⟩ = some (.int .i64 0) := (blk_cell BK166.out 7).trans rfl; have hcz16_8 : w15.cell? ⟨gb166, 8, none⟩ = some (.bool false) := (blk_cell BK166.out 8).trans rfl; have hfz16_0 := blk_frozen BK166.out 0; have hfz16_1 := blk_frozen BK166.out 1; have hfz16_2 := blk_frozen BK166.out 2; have hfz16_3 := blk_frozen BK166.out 3; have hfz16_4 := blk_frozen BK166.out 4; have hfz16_5 := blk_frozen BK166.out 5; have hfz16_6 := blk_frozen BK166.out 6; have hfz16_7 := blk_frozen BK166.out 7; have hfz16_8 := blk_frozen BK166.out 8))
                        have n0_ : Aside0 ((((((((((w15.setCell ⟨gb166, 0, none⟩ (.int .i64 ((rd_T135 l0 x7_1).f0))).setCell ⟨gb166, 1, none⟩ (.bool ((rd_T135 l0 x7_1).f1))).setCell ⟨gb166, 2, none⟩ (.int .i64 ((rd_T135 l0 x7_1).f2.f0))).setCell ⟨gb166, 3, none⟩ (.int .i64 ((rd_T135 l0 x7_1).f2.f1))).setCell ⟨gb166, 4, none⟩ (.int .i64 ((rd_T135 l0 x7_1).f2.f2))).setCell ⟨gb166, 5, none⟩ (.int .i64 ((rd_T135 l0 x7_1).f2.f3))).setCell ⟨gb166, 6, none⟩ (.int .i64 ((rd_T135 l0 x7_1).f2.f4))).setCell ⟨gb166, 7, none⟩ (.int .i64 ((rd_T135 l0 x7_1).f2.f5))).setCell ⟨gb166, 8, none⟩ (.bool ((rd_T135 l0 x7_1).f2.f6))).heap[gb166]? = some (.cells #[.int .i64 ((rd_T135 l0 x7_1).f0), .bool ((rd_T135 l0 x7_1).f1), .int .i64 ((rd_T135 l0 x7_1).f2.f0), .int .i64 ((rd_T135 l0 x7_1).f2.f1), .int .i64 ((rd_T135 l0 x7_1).f2.f2), .int .i64 ((rd_T135 l0 x7_1).f2.f3), .int .i64 ((rd_T135 l0 x7_1).f2.f4), .int .i64 ((rd_T135 l0 x7_1).f2.f5), .bool ((rd_T135 l0 x7_1).f2.f6)] 135 (0, 0))) := ⟨by (with_reducible repeat (first | refine blk_drewN ?_ _ | refine blk_drew ?_ | refine blk_alloc ?_ _)); refine blk_put (cs := #[.int .i64 ((rd_T135 l0 x7_1).f0), .bool ((rd_T135 l0 x7_1).f1), .int .i64 ((rd_T135 l0 x7_1).f2.f0), .int .i64 ((rd_T135 l0 x7_1).f2.f1), .int .i64 ((rd_T135 l0 x7_1).f2.f2), .int .i64 ((rd_T135 l0 x7_1).f2.f3), .int .i64 ((rd_T135 l0 x7_1).f2.f4), .int .i64 ((rd_T135 l0 x7_1).f2.f5), .bool false]) ?_ 8 _ (by first | rfl | (subst_vars; rfl)); (with_reducible repeat (first | refine blk_drewN ?_ _ | refine blk_drew ?_ | refine blk_alloc ?_ _)); refine blk_put (cs := #[.int .i64 ((rd_T135 l0 x7_1).f0), .bool ((rd_T135 l0 x7_1).f1), .int .i64 ((rd_T135 l0 x7_1).f2.f0), .int .i64 ((rd_T135 l0 x7_1).f2.f1), .int .i64 ((rd_T135 l0 x7_1).f2.f2), .int .i64 ((rd_T135 l0 x7_1).f2.f3), .int .i64 ((rd_T135 l0 x7_1).f2.f4), .int .i64 0, .bool false]) ?_ 7 _ (by first | rfl | (subst_vars; rfl)); (with_reducible repeat (first | refine blk_drewN ?_ _ | refine blk_drew ?_ | refine blk_alloc ?_ _)); refine blk_put (cs := #[.int .i64 ((rd_T135 l0 x7_1).f0), .bool ((rd_T135 l0 x7_1).f1), .int .i64 ((rd_T135 l0 x7_1).f2.f0), .int .i64 ((rd_T135 l0 x7_1).f2.f1), .int .i64 ((rd_T135 l0 x7_1).f2.f2), .int .i64 ((rd_T135 l0 x7_1).f2.f3), .int .i64 0, .int .i64 0, .bool false]) ?_ 6 _ (by first | rfl | (subst_vars; rfl)); (with_reducible repeat (first | refine blk_drewN ?_ _ | refine blk_drew ?_ | refine blk_alloc ?_ _)); refine blk_put (cs := #[.int .i64 ((rd_T135 l0 x7_1).f0), .bool ((rd_T135 l0 x7_1).f1), .int .i64 ((rd_T135 l0 x7_1).f2.f0), .int .i64 ((rd_T135 l0 x7_1).f2.f1), .int .i64 ((rd_T135 l0 x7_1).f2.f2), .int .i64 0, .int .i64 0, .int .i64 0, .bool false]) ?_ 5 _ (by first | rfl | (subst_vars; rfl)); (with_reducible repeat (first | refine blk_drewN ?_ _ | refine blk_drew ?_ | refine blk_alloc ?_ _)); refine blk_put (cs := #[.int .i64 ((rd_T135 l0 x7_1).f0), .bool ((rd_T135 l0 x7_1).f1), .int .i64 ((rd_T135 l0 x7_1).f2.f0), .int .i64 ((rd_T135 l0 x7_1).f2.f1), .int .i64 0, .int .i64 0, .int .i64 0, .int .i64 0, .bool false]) ?_ 4 _ (by first | rfl | (subst_vars; rfl)); (with_reducible repeat (first | refine blk_drewN ?_ _ | refine blk_drew ?_ | refine blk_alloc ?_ _)); refine blk_put (cs := #[.int .i64 ((rd_T135 l0 x7_1).f0), .bool ((rd_T135 l0 x7_1).f1), .int .i64 ((rd_T135 l0 x7_1).f2.f0), .int .i64 0, .int .i64 0, .int .i64 0, .int .i64 0, .int .i64 0, .bool false]) ?_ 3 _ (by first | rfl | (subst_vars; rfl)); (with_reducible repeat (first | refine blk_drewN ?_ _ | refine blk_drew ?_ | refine blk_alloc ?_ _)); refine blk_put (cs := #[.int .i64 ((rd_T135 l0 x7_1).f0), .bool ((rd_T135 l0 x7_1).f1), .int .i64 0, .int .i64 0, .int .i64 0, .int .i64 0, .int .i64 0, .int .i64 0, .bool false]) ?_ 2 _ (by first | rfl | (subst_vars; rfl)); (with_reducible repeat (first | refine blk_drewN ?_ _ | refine blk_drew ?_ | refine blk_alloc ?_ _)); refine blk_put (cs := #[.int .i64 ((rd_T135 l0 x7_1).f0), .bool false, .int .i64 0, .int .i64 0, .int .i64 0, .int .i64 0, .int .i64 0, .int .i64 0, .bool false]) ?_ 1 _ (by first | rfl | (subst_vars; rfl)); (with_reducible repeat (first | refine blk_drewN ?_ _ | refine blk_drew ?_ | refine blk_alloc ?_ _)); refine blk_put (cs := #[.int .i64 0, .bool false, .int .i64 0, .int .i64 0, .int .i64 0, .int .i64 0, .int .i64 0, .int .i64 0, .bool false]) ?_ 0 _ (by first | rfl | (subst_vars; rfl)); (with_reducible repeat (first | refine blk_drewN ?_ _ | refine blk_drew ?_ | refine blk_alloc ?_ _)); exact BK166.out⟩
                        have n1_ : Aside0 (Below w.heap.size w (((((((((w15.setCell ⟨gb166, 0, none⟩ (.int .i64 ((rd_T135 l0 x7_1).f0))).setCell ⟨gb166, 1, none⟩ (.bool ((rd_T135 l0 x7_1).f1))).setCell ⟨gb166, 2, none⟩ (.int .i64 ((rd_T135 l0 x7_1).f2.f0))).setCell ⟨gb166, 3, none⟩ (.int .i64 ((rd_T135 l0 x7_1).f2.f1))).setCell ⟨gb166, 4, none⟩ (.int .i64 ((rd_T135 l0 x7_1).f2.f2))).setCell ⟨gb166, 5, none⟩ (.int .i64 ((rd_T135 l0 x7_1).f2.f3))).setCell ⟨gb166, 6, none⟩ (.int .i64 ((rd_T135 l0 x7_1).f2.f4))).setCell ⟨gb166, 7, none⟩ (.int .i64 ((rd_T135 l0 x7_1).f2.f5))).setCell ⟨gb166, 8, none⟩ (.bool ((rd_T135 l0 x7_1).f2.f6)))) := ⟨by repeat (first | (with_reducible first | exact HB.out | apply below_alloc | apply pw_below_drewN | apply below_drew1 | refine below_set ?_ GE166.out) | exact HB.out)⟩
                        (try clear BK166)
                        (try clear HB)
                        generalize (((((((((w15.setCell ⟨gb166, 0, none⟩ (.int .i64 ((rd_T135 l0 x7_1).f0))).setCell ⟨gb166, 1, none⟩ (.bool ((rd_T135 l0 x7_1).f1))).setCell ⟨gb166, 2, none⟩ (.int .i64 ((rd_T135 l0 x7_1).f2.f0))).setCell ⟨gb166, 3, none⟩ (.int .i64 ((rd_T135 l0 x7_1).f2.f1))).setCell ⟨gb166, 4, none⟩ (.int .i64 ((rd_T135 l0 x7_1).f2.f2))).setCell ⟨gb166, 5, none⟩ (.int .i64 ((rd_T135 l0 x7_1).f2.f3))).setCell ⟨gb166, 6, none⟩ (.int .i64 ((rd_T135 l0 x7_1).f2.f4))).setCell ⟨gb166, 7, none⟩ (.int .i64 ((rd_T135 l0 x7_1).f2.f5))).setCell ⟨gb166, 8, none⟩ (.bool ((rd_T135 l0 x7_1).f2.f6))) = w17 at n0_ n1_ ⊢
                        have BK166 := n0_
                        have HB := n1_
                        clear n0_ n1_
                        have n0_ := Aside0.mk (blk_drew BK166.out)
                        have n1_ := Aside0.mk (below_drew1 HB.out)
                        clear BK166
                        clear HB
                        have BK166 := n0_
                        have HB := n1_
                        clear n0_ n1_
                        have p169 : 0 ≤ ((ji10) : Int) := of_decide_eq_true (by first | (with_reducible assumption) | assumption)
                        have q169 : (ji10) < (l0.length : Int) := of_decide_eq_true (by first | (with_reducible assumption) | assumption)
                        obtain ⟨ad169, e169, hx169_0, hx169_1, hx169_2, hx169_3, hx169_4, hx169_5, hx169_6, hx169_7, hx169_8⟩ := at_T135 HR0.out (ji10) p169 q169
                        have hw169_8 := hx169_8
                        have hw169_7 := hx169_7
                        have hw169_6 := hx169_6
                        have hw169_5 := hx169_5
                        have hw169_4 := hx169_4
                        have hw169_3 := hx169_3
                        have hw169_2 := hx169_2
                        have hw169_1 := hx169_1
                        have hw169_0 := hx169_0
                        obtain rfl : ad165 = ad169 := (by injection e169)
                        replace hx169_0 := (HB.out.cell (World.block_lt_of_cell? w _ hx169_0)).trans hx169_0
                        replace hx169_1 := (HB.out.cell (World.block_lt_of_cell? w _ hx169_1)).trans hx169_1
                        replace hx169_2 := (HB.out.cell (World.block_lt_of_cell? w _ hx169_2)).trans hx169_2
                        replace hx169_3 := (HB.out.cell (World.block_lt_of_cell? w _ hx169_3)).trans hx169_3
                        replace hx169_4 := (HB.out.cell (World.block_lt_of_cell? w _ hx169_4)).trans hx169_4
                        replace hx169_5 := (HB.out.cell (World.block_lt_of_cell? w _ hx169_5)).trans hx169_5
                        replace hx169_6 := (HB.out.cell (World.block_lt_of_cell? w _ hx169_6)).trans hx169_6
                        replace hx169_7 := (HB.out.cell (World.block_lt_of_cell? w _ hx169_7)).trans hx169_7
                        replace hx169_8 := (HB.out.cell (World.block_lt_of_cell? w _ hx169_8)).trans hx169_8
                        replace p169 := eq_true p169
                        replace q169 := eq_true q169
                        refine start_ (n := 24) (S := fun w' => w'.cell? ⟨gb166, 0, none⟩ = some (.int .i64 ((rd_T135 l0 x7_1).f0)) ∧ w'.cell? ⟨gb166, 1, none⟩ = some (.bool ((rd_T135 l0 x7_1).f1)) ∧ w'.cell? ⟨gb166, 2, none⟩ = some (.int .i64 ((rd_T135 l0 x7_1).f2.f0)) ∧ w'.cell? ⟨gb166, 3, none⟩ = some (.int .i64 ((rd_T135 l0 x7_1).f2.f1)) ∧ w'.cell? ⟨gb166, 4, none⟩ = some (.int .i64 ((rd_T135 l0 x7_1).f2.f2)) ∧ w'.cell? ⟨gb166, 5, none⟩ = some (.int .i64 ((rd_T135 l0 x7_1).f2.f3)) ∧ w'.cell? ⟨gb166, 6, none⟩ = some (.int .i64 ((rd_T135 l0 x7_1).f2.f4)) ∧ w'.cell? ⟨gb166, 7, none⟩ = some (.int .i64 ((rd_T135 l0 x7_1).f2.f5)) ∧ w'.cell? ⟨gb166, 8, none⟩ = some (.bool ((rd_T135 l0 x7_1).f2.f6)) ∧ w'.cell? (ad165.add (((ji10)).toNat * 9)) = some (.int .i64 ((rd_T135 l0 (ji10)).f0)) ∧ w'.cell? ⟨(ad165.add (((ji10)).toNat * 9)).block, (ad165.add (((ji10)).toNat * 9)).off + 1, none⟩ = some (.bool ((rd_T135 l0 (ji10)).f1)) ∧ w'.cell? ⟨(ad165.add (((ji10)).toNat * 9)).block, (ad165.add (((ji10)).toNat * 9)).off + 2, none⟩ = some (.int .i64 ((rd_T135 l0 (ji10)).f2.f0)) ∧ w'.cell? ⟨(ad165.add (((ji10)).toNat * 9)).block, (ad165.add (((ji10)).toNat * 9)).off + 3, none⟩ = some (.int .i64 ((rd_T135 l0 (ji10)).f2.f1)) ∧ w'.cell? ⟨(ad165.add (((ji10)).toNat * 9)).block, (ad165.add (((ji10)).toNat * 9)).off + 4, none⟩ = some (.int .i64 ((rd_T135 l0 (ji10)).f2.f2)) ∧ w'.cell? ⟨(ad165.add (((ji10)).toNat * 9)).block, (ad165.add (((ji10)).toNat * 9)).off + 5, none⟩ = some (.int .i64 ((rd_T135 l0 (ji10)).f2.f3)) ∧ w'.cell? ⟨(ad165.add (((ji10)).toNat * 9)).block, (ad165.add (((ji10)).toNat * 9)).off + 6, none⟩ = some (.int .i64 ((rd_T135 l0 (ji10)).f2.f4)) ∧ w'.cell? ⟨(ad165.add (((ji10)).toNat * 9)).block, (ad165.add (((ji10)).toNat * 9)).off + 7, none⟩ = some (.int .i64 ((rd_T135 l0 (ji10)).f2.f5)) ∧ w'.cell? ⟨(ad165.add (((ji10)).toNat * 9)).block, (ad165.add (((ji10)).toNat * 9)).off + 8, none⟩ = some (.bool ((rd_T135 l0 (ji10)).f2.f6))) (ds := []) #[false, false, false, false, false, false, false, false, false, false, false, false, false, false, false, false, false, false, false, false, false, false, false, false] (by kernel_rfl) rfl rfl ⟨(blk_cell BK166.out 0).trans rfl, (blk_cell BK166.out 1).trans rfl, (blk_cell BK166.out 2).trans rfl, (blk_cell BK166.out 3).trans rfl, (blk_cell BK166.out 4).trans rfl, (blk_cell BK166.out 5).trans rfl, (blk_cell BK166.out 6).trans rfl, (blk_cell BK166.out 7).trans rfl, (blk_cell BK166.out 8).trans rfl, ((HB.out.cell (World.block_lt_of_cell? _ _ hw169_0)).trans hw169_0), ((HB.out.cell (World.block_lt_of_cell? _ _ hw169_1)).trans hw169_1), ((HB.out.cell (World.block_lt_of_cell? _ _ hw169_2)).trans hw169_2), ((HB.out.cell (World.block_lt_of_cell? _ _ hw169_3)).trans hw169_3), ((HB.out.cell (World.block_lt_of_cell? _ _ hw169_4)).trans hw169_4), ((HB.out.cell (World.block_lt_of_cell? _ _ hw169_5)).trans hw169_5), ((HB.out.cell (World.block_lt_of_cell? _ _ hw169_6)).trans hw169_6), ((HB.out.cell (World.block_lt_of_cell? _ _ hw169_7)).trans hw169_7), ((HB.out.cell (World.block_lt_of_cell? _ _ hw169_8)).trans hw169_8)⟩ (fun hHeld => ?_); refine with_tabW impl_RibRight.tab4 impl_RibRight.bits4 (fun HT_ HW_ => ?_)
                        generalize w17.drew = w18 at BK166 HB hx169_0 hx169_1 hx169_2 hx169_3 hx169_4 hx169_5 hx169_6 hx169_7 hx169_8 hHeld ⊢
                        refine pure_ (i := 0) (N := some 12) (v := ?_) (a' := ?_) #[true, false, false, false, false, false, false, false, false, false, false, false, false, false, false, false, false, false, false, false, false, false, false, false] rfl rfl (any_of HT_.out (by kernel_rfl)) (fun _ _ _ h => h) (Or.inl ⟨by rfl, ?_⟩) ?_ ?_
                        rotate_left
                        · intro w'
                          go_simp
                          with_reducible rfl
                        rotate_left
                        · simp only [Act.put, List.setIfInBounds_toArray, List.set_cons_zero, List.set_cons_succ, i64_w, i32_w]
                          rfl
                        refine take_ (i := 1) (N := some 13) (v := ?_) (a' := ?_) #[true, true, false, false, false, false, false, false, false, false, false, false, false, false, false, false, false, false, false, false, false, false, false, false] rfl rfl (take_ofW HT_.out HW_.out (by kernel_rfl)) (fun _ _ _ h => h) (Or.inl ⟨by rfl, ?_⟩) hHeld ?_ ?_
                        rotate_left
                        · rintro w' ⟨s0, s1, s2, s3, s4, s5, s6, s7, s8, s9, s10, s11, s12, s13, s14, s15, s16, s17⟩
                          go_simp
                          with_reducible rfl
                        rotate_left
                        · simp only [Act.put, List.setIfInBounds_toArray, List.set_cons_zero, List.set_cons_succ, i64_w, i32_w]
                          rfl
                        refine one_ (i := 2) (N := some 14) #[true, true, true, false, false, false, false, false, false, false, false, false, false, false, false, false, false, false, false, false, false, false, false, false] rfl rfl (one_of HT_.out (by kernel_rfl)) (by decide) (fun K hK => ?_)
                        refine goes_ Try.func123 (by kernel_rfl) rfl #[.int .i64 ((rd_T135 l0 x7_1).f0)] (by rfl) rfl rfl (by (try simp only [List.map_toArray, List.map_cons, List.map_nil]); first | done | rfl | (simp only [List.length_drop, List.length_take]; rfl)) ?_
                        with_reducible refine (impl_isPeer.calls ((rd_T135 l0 x7_1).f0) true _ A5.out).mono ?_
                        rintro e w' ⟨rfl, ⟨nd, rfl⟩⟩
                        refine ⟨_, rfl, ?_⟩
                        refine hK.out _ _ ⟨(blk_cell BK166.out 0).trans rfl, (blk_cell BK166.out 1).trans rfl, (blk_cell BK166.out 2).trans rfl, (blk_cell BK166.out 3).trans rfl, (blk_cell BK166.out 4).trans rfl, (blk_cell BK166.out 5).trans rfl, (blk_cell BK166.out 6).trans rfl, (blk_cell BK166.out 7).trans rfl, (blk_cell BK166.out 8).trans rfl, ((HB.out.cell (World.block_lt_of_cell? _ _ hw169_0)).trans hw169_0), ((HB.out.cell (World.block_lt_of_cell? _ _ hw169_1)).trans hw169_1), ((HB.out.cell (World.block_lt_of_cell? _ _ hw169_2)).trans hw169_2), ((HB.out.cell (World.block_lt_of_cell? _ _ hw169_3)).trans hw169_3), ((HB.out.cell (World.block_lt_of_cell? _ _ hw169_4)).trans hw169_4), ((HB.out.cell (World.block_lt_of_cell? _ _ hw169_5)).trans hw169_5), ((HB.out.cell (World.block_lt_of_cell? _ _ hw169_6)).trans hw169_6), ((HB.out.cell (World.block_lt_of_cell? _ _ hw169_7)).trans hw169_7), ((HB.out.cell (World.block_lt_of_cell? _ _ hw169_8)).trans hw169_8)⟩ (fun hHeld => ?_)
                        clear hK K
                        refine norm_ (a' := ?_) ?_ ?_
                        rotate_left
                        · show Act.put _ (some 14) _ = _
                          simp only [Act.put, List.setIfInBounds_toArray, List.set_cons_zero, List.set_cons_succ, i64_w, i32_w]
                          rfl
                        refine pure_ (i := 3) (N := some 15) (v := ?_) (a' := ?_) #[true, true, true, true, false, false, false, false, false, false, false, false, false, false, false, false, false, false, false, false, false, false, false, false] rfl rfl (any_of HT_.out (by kernel_rfl)) (fun _ _ _ h => h) (Or.inl ⟨by rfl, ?_⟩) ?_ ?_
                        rotate_left
                        · intro w'
                          go_simp
                          with_reducible rfl
                        rotate_left
                        · simp only [Act.put, List.setIfInBounds_toArray, List.set_cons_zero, List.set_cons_succ, i64_w, i32_w]
                          rfl
                        refine pure_ (i := 4) (N := some 16) (v := ?_) (a' := ?_) #[true, true, true, true, true, false, false, false, false, false, false, false, false, false, false, false, false, false, false, false, false, false, false, false] rfl rfl (any_of HT_.out (by kernel_rfl)) (fun _ _ _ h => h) (Or.inl ⟨by rfl, ?_⟩) ?_ ?_
                        rotate_left
                        · intro w'
                          go_simp
                          with_reducible rfl
                        rotate_left
                        · simp only [Act.put, List.setIfInBounds_toArray, List.set_cons_zero, List.set_cons_succ, i64_w, i32_w]
                          rfl
                        refine pure_ (i := 5) (N := some 17) (v := ?_) (a' := ?_) #[true, true, true, true, true, true, false, false, false, false, false, false, false, false, false, false, false, false, false, false, false, false, false, false] rfl rfl (any_of HT_.out (by kernel_rfl)) (fun _ _ _ h => h) (Or.inl ⟨by rfl, ?_⟩) ?_ ?_
                        rotate_left
                        · intro w'
                          go_simp
                          with_reducible rfl
                        rotate_left
                        · simp only [Act.put, List.setIfInBounds_toArray, List.set_cons_zero, List.set_cons_succ, i64_w, i32_w]
                          rfl
                        refine take_ (i := 6) (N := some 18) (v := ?_) (a' := ?_) #[true, true, true, true, true, true, true, false, false, false, false, false, false, false, false, false, false, false, false, false, false, false, false, false] rfl rfl (take_ofW HT_.out HW_.out (by kernel_rfl)) (fun _ _ _ h => h) (Or.inl ⟨by rfl, ?_⟩) hHeld ?_ ?_
                        rotate_left
                        · rintro w' ⟨s0, s1, s2, s3, s4, s5, s6, s7, s8, s9, s10, s11, s12, s13, s14, s15, s16, s17⟩
                          go_simp
                          with_reducible rfl
                        rotate_left
                        · simp only [Act.put, List.setIfInBounds_toArray, List.set_cons_zero, List.set_cons_succ, i64_w, i32_w]
                          rfl
                        refine one_ (i := 7) (N := some 19) #[true, true, true, true, true, true, true, true, false, false, false, false, false, false, false, false, false, false, false, false, false, false, false, false] rfl rfl (one_of HT_.out (by kernel_rfl)) (by decide) (fun K hK => ?_)
                        refine goes_ Try.func124 (by kernel_rfl) rfl #[.agg #[.int .i64 ((rd_T135 l0 x7_1).f2.f0), .int .i64 ((rd_T135 l0 x7_1).f2.f1), .int .i64 ((rd_T135 l0 x7_1).f2.f2), .int .i64 ((rd_T135 l0 x7_1).f2.f3), .int .i64 ((rd_T135 l0 x7_1).f2.f4), .int .i64 ((rd_T135 l0 x7_1).f2.f5), .bool ((rd_T135 l0 x7_1).f2.f6)]] (by rfl) rfl rfl (by (try simp only [List.map_toArray, List.map_cons, List.map_nil]); first | done | rfl | (simp only [List.length_drop, List.length_take]; rfl)) ?_
                        with_reducible refine (impl_RouteRight.calls k1 ((rd_T135 l0 x7_1).f2.f0) ((rd_T135 l0 x7_1).f2.f1) ((rd_T135 l0 x7_1).f2.f2) ((rd_T135 l0 x7_1).f2.f3) ((rd_T135 l0 x7_1).f2.f4) ((rd_T135 l0 x7_1).f2.f5) ((rd_T135 l0 x7_1).f2.f6) true _ A7.out).mono ?_
                        rintro e w19 ⟨rfl, hb⟩
                        refine ⟨_, rfl, ?_⟩
                        have n0_ := Aside0.mk (blk_below (g := gb166) (o := .cells #[.int .i64 ((rd_T135 l0 x7_1).f0), .bool ((rd_T135 l0 x7_1).f1), .int .i64 ((rd_T135 l0 x7_1).f2.f0), .int .i64 ((rd_T135 l0 x7_1).f2.f1), .int .i64 ((rd_T135 l0 x7_1).f2.f2), .int .i64 ((rd_T135 l0 x7_1).f2.f3), .int .i64 ((rd_T135 l0 x7_1).f2.f4), .int .i64 ((rd_T135 l0 x7_1).f2.f5), .bool ((rd_T135 l0 x7_1).f2.f6)] 135 (0, 0)) (by (with_reducible repeat (first | refine blk_drewN ?_ _ | refine blk_drew ?_ | refine blk_alloc ?_ _)); exact BK166.out) hb)
                        have n1_ := Aside0.mk (below_step (by repeat (first | (with_reducible first | exact HB.out | apply below_alloc | apply pw_below_drewN | apply below_drew1 | refine below_set ?_ GE166.out) | exact HB.out)) hb)
                        clear BK166
                        clear HB
                        have BK166 := n0_
                        have HB := n1_
                        clear n0_ n1_
                        (try clear hb)
                        (try clear hb2)
                        (try clear hk)
                        (try clear hi)
                        refine hK.out _ _ ⟨(blk_cell BK166.out 0).trans rfl, (blk_cell BK166.out 1).trans rfl, (blk_cell BK166.out 2).trans rfl, (blk_cell BK166.out 3).trans rfl, (blk_cell BK166.out 4).trans rfl, (blk_cell BK166.out 5).trans rfl, (blk_cell BK166.out 6).trans rfl, (blk_cell BK166.out 7).trans rfl, (blk_cell BK166.out 8).trans rfl, ((HB.out.cell (World.block_lt_of_cell? _ _ hw169_0)).trans hw169_0), ((HB.out.cell (World.block_lt_of_cell? _ _ hw169_1)).trans hw169_1), ((HB.out.cell (World.block_lt_of_cell? _ _ hw169_2)).trans hw169_2), ((HB.out.cell (World.block_lt_of_cell? _ _ hw169_3)).trans hw169_3), ((HB.out.cell (World.block_lt_of_cell? _ _ hw169_4)).trans hw169_4), ((HB.out.cell (World.block_lt_of_cell? _ _ hw169_5)).trans hw169_5), ((HB.out.cell (World.block_lt_of_cell? _ _ hw169_6)).trans hw169_6), ((HB.out.cell (World.block_lt_of_cell? _ _ hw169_7)).trans hw169_7), ((HB.out.cell (World.block_lt_of_cell? _ _ hw169_8)).trans hw169_8)⟩ (fun hHeld => ?_)
                        clear hK K
                        refine norm_ (a' := ?_) ?_ ?_
                        rotate_left
                        · show Act.put _ (some 19) _ = _
                          simp only [Act.put, List.setIfInBounds_toArray, List.set_cons_zero, List.set_cons_succ, i64_w, i32_w]
                          rfl
                        refine pure_ (i := 8) (N := some 20) (v := ?_) (a' := ?_) #[true, true, true, true, true, true, true, true, true, false, false, false, false, false, false, false, false, false, false, false, false, false, false, false] rfl rfl (any_of HT_.out (by kernel_rfl)) (fun _ _ _ h => h) (Or.inl ⟨by rfl, ?_⟩) ?_ ?_
                        rotate_left
                        · intro w'
                          go_simp
                          with_reducible rfl
                        rotate_left
                        · simp only [Act.put, List.setIfInBounds_toArray, List.set_cons_zero, List.set_cons_succ, i64_w, i32_w]
                          rfl
                        refine pure_ (i := 9) (N := some 21) (v := ?_) (a' := ?_) #[true, true, true, true, true, true, true, true, true, true, false, false, false, false, false, false, false, false, false, false, false, false, false, false] rfl rfl (any_of HT_.out (by kernel_rfl)) (fun _ _ _ h => h) (Or.inl ⟨by rfl, ?_⟩) ?_ ?_
                        rotate_left
                        · intro w'
                          go_simp
                          with_reducible rfl
                        rotate_left
                        · simp only [Act.put, List.setIfInBounds_toArray, List.set_cons_zero, List.set_cons_succ, i64_w, i32_w]
                          rfl
                        refine pure_ (i := 10) (N := some 22) (v := ?_) (a' := ?_) #[true, true, true, true, true, true, true, true, true, true, true, false, false, false, false, false, false, false, false, false, false, false, false, false] rfl rfl (any_of HT_.out (by kernel_rfl)) (fun _ _ _ h => h) (Or.inl ⟨by rfl, ?_⟩) ?_ ?_
                        rotate_left
                        · intro w'
                          go_simp
                          with_reducible rfl
                        rotate_left
                        · simp only [Act.put, List.setIfInBounds_toArray, List.set_cons_zero, List.set_cons_succ, i64_w, i32_w]
                          rfl
                        refine pure_ (i := 11) (N := some 23) (v := ?_) (a' := ?_) #[true, true, true, true, true, true, true, true, true, true, true, true, false, false, false, false, false, false, false, false, false, false, false, false] rfl rfl (any_of HT_.out (by kernel_rfl)) (fun _ _ _ h => h) (Or.inl ⟨by rfl, ?_⟩) ?_ ?_
                        rotate_left
                        · intro w'
                          go_simp
                          with_reducible rfl
                        rotate_left
                        · simp only [Act.put, List.setIfInBounds_toArray, List.set_cons_zero, List.set_cons_succ, i64_w, i32_w]
                          rfl
                        refine pure_ (i := 12) (N := some 24) (v := ?_) (a' := ?_) #[true, true, true, true, true, true, true, true, true, true, true, true, true, false, false, false, false, false, false, false, false, false, false, false] rfl rfl (any_of HT_.out (by kernel_rfl)) (fun _ _ _ h => h) (Or.inl ⟨by rfl, ?_⟩) ?_ ?_
                        rotate_left
                        · intro w'
                          go_simp
                          with_reducible rfl
                        rotate_left
                        · simp only [Act.put, List.setIfInBounds_toArray, List.set_cons_zero, List.set_cons_succ, i64_w, i32_w]
                          rfl
                        refine pure_ (i := 13) (N := some 25) (v := ?_) (a' := ?_) #[true, true, true, true, true, true, true, true, true, true, true, true, true, true, false, false, false, false, false, false, false, false, false, false] rfl rfl (any_of HT_.out (by kernel_rfl)) (fun _ _ _ h => h) (Or.inl ⟨by rfl, ?_⟩) ?_ ?_
                        rotate_left
                        · intro w'
                          go_simp
                          with_reducible rfl
                        rotate_left
                        · simp only [Act.put, List.setIfInBounds_toArray, List.set_cons_zero, List.set_cons_succ, i64_w, i32_w]
                          rfl
                        refine pure_ (i := 14) (N := some 26) (v := ?_) (a' := ?_) #[true, true, true, true, true, true, true, true, true, true, true, true, true, true, true, false, false, false, false, false, false, false, false, false] rfl rfl (any_of HT_.out (by kernel_rfl)) (fun _ _ _ h => h) (Or.inl ⟨by rfl, ?_⟩) ?_ ?_
                        rotate_left
                        · intro w'
                          go_simp
                          with_reducible rfl
                        rotate_left
                        · simp only [Act.put, List.setIfInBounds_toArray, List.set_cons_zero, List.set_cons_succ, i64_w, i32_w]
                          rfl
                        refine pure_ (i := 15) (N := some 27) (v := ?_) (a' := ?_) #[true, true, true, true, true, true, true, true, true, true, true, true, true, true, true, true, false, false, false, false, false, false, false, false] rfl rfl (any_of HT_.out (by kernel_rfl)) (fun _ _ _ h => h) (Or.inl ⟨by rfl, ?_⟩) ?_ ?_
                        rotate_left
                        · intro w'
                          go_simp
                          with_reducible rfl
                        rotate_left
                        · simp only [Act.put, List.setIfInBounds_toArray, List.set_cons_zero, List.set_cons_succ, i64_w, i32_w]
                          rfl
                        refine pure_ (i := 16) (N := some 28) (v := ?_) (a' := ?_) #[true, true, true, true, true, true, true, true, true, true, true, true, true, true, true, true, true, false, false, false, false, false, false, false] rfl rfl (any_of HT_.out (by kernel_rfl)) (fun _ _ _ h => h) (Or.inl ⟨by rfl, ?_⟩) ?_ ?_
                        rotate_left
                        · intro w'
                          go_simp
                          with_reducible rfl
                        rotate_left
                        · simp only [Act.put, List.setIfInBounds_toArray, List.set_cons_zero, List.set_cons_succ, i64_w, i32_w]
                          rfl
                        refine pure_ (i := 17) (N := some 29) (v := ?_) (a' := ?_) #[true, true, true, true, true, true, true, true, true, true, true, true, true, true, true, true, true, true, false, false, false, false, false, false] rfl rfl (any_of HT_.out (by kernel_rfl)) (fun _ _ _ h => h) (Or.inl ⟨by rfl, ?_⟩) ?_ ?_
                        rotate_left
                        · intro w'
                          go_simp
                          with_reducible rfl
                        rotate_left
                        · simp only [Act.put, List.setIfInBounds_toArray, List.set_cons_zero, List.set_cons_succ, i64_w, i32_w]
                          rfl
                        refine take_ (i := 18) (N := some 30) (v := ?_) (a' := ?_) #[true, true, true, true, true, true, true, true, true, true, true, true, true, true, true, true, true, true, true, false, false, false, false, false] rfl rfl (take_ofW HT_.out HW_.out (by kernel_rfl)) (fun _ _ _ h => h) (Or.inl ⟨by rfl, ?_⟩) hHeld ?_ ?_
                        rotate_left
                        · rintro w' ⟨s0, s1, s2, s3, s4, s5, s6, s7, s8, s9, s10, s11, s12, s13, s14, s15, s16, s17⟩
                          go_simp
                          with_reducible rfl
                        rotate_left
                        · simp only [Act.put, List.setIfInBounds_toArray, List.set_cons_zero, List.set_cons_succ, i64_w, i32_w]
                          rfl
                        refine take_ (i := 19) (N := some 31) (v := ?_) (a' := ?_) #[true, true, true, true, true, true, true, true, true, true, true, true, true, true, true, true, true, true, true, true, false, false, false, false] rfl rfl (take_ofW HT_.out HW_.out (by kernel_rfl)) (fun _ _ _ h => h) (Or.inl ⟨by rfl, ?_⟩) hHeld ?_ ?_
                        rotate_left
                        · rintro w' ⟨s0, s1, s2, s3, s4, s5, s6, s7, s8, s9, s10, s11, s12, s13, s14, s15, s16, s17⟩
                          go_simp
                          with_reducible rfl
                        rotate_left
                        · simp only [Act.put, List.setIfInBounds_toArray, List.set_cons_zero, List.set_cons_succ, i64_w, i32_w]
                          rfl
                        refine one_ (i := 20) (N := some 32) #[true, true, true, true, true, true, true, true, true, true, true, true, true, true, true, true, true, true, true, true, true, false, false, false] rfl rfl (one_of HT_.out (by kernel_rfl)) (by decide) (fun K hK => ?_)
                        refine goes_ Try.func125 (by kernel_rfl) rfl #[.agg #[.int .i64 ((rd_T135 l0 (ji10)).f0), .bool ((rd_T135 l0 (ji10)).f1), .int .i64 ((rd_T135 l0 (ji10)).f2.f0), .int .i64 ((rd_T135 l0 (ji10)).f2.f1), .int .i64 ((rd_T135 l0 (ji10)).f2.f2), .int .i64 ((rd_T135 l0 (ji10)).f2.f3), .int .i64 ((rd_T135 l0 (ji10)).f2.f4), .int .i64 ((rd_T135 l0 (ji10)).f2.f5), .bool ((rd_T135 l0 (ji10)).f2.f6)], .agg #[.int .i64 ((rd_T135 l0 x7_1).f0), .bool ((rd_T135 l0 x7_1).f1), .int .i64 ((rd_T135 l0 x7_1).f2.f0), .int .i64 ((rd_T135 l0 x7_1).f2.f1), .int .i64 ((rd_T135 l0 x7_1).f2.f2), .int .i64 ((rd_T135 l0 x7_1).f2.f3), .int .i64 ((rd_T135 l0 x7_1).f2.f4), .int .i64 ((rd_T135 l0 x7_1).f2.f5), .bool ((rd_T135 l0 x7_1).f2.f6)]] (by rfl) rfl rfl (by (try simp only [List.map_toArray, List.map_cons, List.map_nil]); first | done | (simp only [hji10]; rfl) | rfl | (simp only [List.length_drop, List.length_take]; rfl)) ?_
                        with_reducible refine (impl_Held_order.calls k1 ((rd_T135 l0 (ji10)).f0) ((rd_T135 l0 (ji10)).f1) ((rd_T135 l0 (ji10)).f2.f0) ((rd_T135 l0 (ji10)).f2.f1) ((rd_T135 l0 (ji10)).f2.f2) ((rd_T135 l0 (ji10)).f2.f3) ((rd_T135 l0 (ji10)).f2.f4) ((rd_T135 l0 (ji10)).f2.f5) ((rd_T135 l0 (ji10)).f2.f6) ((rd_T135 l0 x7_1).f0) ((rd_T135 l0 x7_1).f1) ((rd_T135 l0 x7_1).f2.f0) ((rd_T135 l0 x7_1).f2.f1) ((rd_T135 l0 x7_1).f2.f2) ((rd_T135 l0 x7_1).f2.f3) ((rd_T135 l0 x7_1).f2.f4) ((rd_T135 l0 x7_1).f2.f5) ((rd_T135 l0 x7_1).f2.f6) t170 _ A13.out).mono ?_
                        rintro e w20 ⟨rfl, hb⟩
                        refine ⟨_, rfl, ?_⟩
                        have n0_ := Aside0.mk (blk_below (g := gb166) (o := .cells #[.int .i64 ((rd_T135 l0 x7_1).f0), .bool ((rd_T135 l0 x7_1).f1), .int .i64 ((rd_T135 l0 x7_1).f2.f0), .int .i64 ((rd_T135 l0 x7_1).f2.f1), .int .i64 ((rd_T135 l0 x7_1).f2.f2), .int .i64 ((rd_T135 l0 x7_1).f2.f3), .int .i64 ((rd_T135 l0 x7_1).f2.f4), .int .i64 ((rd_T135 l0 x7_1).f2.f5), .bool ((rd_T135 l0 x7_1).f2.f6)] 135 (0, 0)) (by (with_reducible repeat (first | refine blk_drewN ?_ _ | refine blk_drew ?_ | refine blk_alloc ?_ _)); exact BK166.out) hb)
                        have n1_ := Aside0.mk (below_step (by repeat (first | (with_reducible first | exact HB.out | apply below_alloc | apply pw_below_drewN | apply below_drew1 | refine below_set ?_ GE166.out) | exact HB.out)) hb)
                        clear BK166
                        clear HB
                        have BK166 := n0_
                        have HB := n1_
                        clear n0_ n1_
                        (try clear hb)
                        (try clear hb2)
                        (try clear hk)
                        (try clear hi)
                        refine hK.out _ _ ⟨(blk_cell BK166.out 0).trans rfl, (blk_cell BK166.out 1).trans rfl, (blk_cell BK166.out 2).trans rfl, (blk_cell BK166.out 3).trans rfl, (blk_cell BK166.out 4).trans rfl, (blk_cell BK166.out 5).trans rfl, (blk_cell BK166.out 6).trans rfl, (blk_cell BK166.out 7).trans rfl, (blk_cell BK166.out 8).trans rfl, ((HB.out.cell (World.block_lt_of_cell? _ _ hw169_0)).trans hw169_0), ((HB.out.cell (World.block_lt_of_cell? _ _ hw169_1)).trans hw169_1), ((HB.out.cell (World.block_lt_of_cell? _ _ hw169_2)).trans hw169_2), ((HB.out.cell (World.block_lt_of_cell? _ _ hw169_3)).trans hw169_3), ((HB.out.cell (World.block_lt_of_cell? _ _ hw169_4)).trans hw169_4), ((HB.out.cell (World.block_lt_of_cell? _ _ hw169_5)).trans hw169_5), ((HB.out.cell (World.block_lt_of_cell? _ _ hw169_6)).trans hw169_6), ((HB.out.cell (World.block_lt_of_cell? _ _ hw169_7)).trans hw169_7), ((HB.out.cell (World.block_lt_of_cell? _ _ hw169_8)).trans hw169_8)⟩ (fun hHeld => ?_)
                        clear hK K
                        refine norm_ (a' := ?_) ?_ ?_
                        rotate_left
                        · show Act.put _ (some 32) _ = _
                          simp only [Act.put, List.setIfInBounds_toArray, List.set_cons_zero, List.set_cons_succ, i64_w, i32_w]
                          rfl
                        refine pure_ (i := 21) (N := some 33) (v := ?_) (a' := ?_) #[true, true, true, true, true, true, true, true, true, true, true, true, true, true, true, true, true, true, true, true, true, true, false, false] rfl rfl (any_of HT_.out (by kernel_rfl)) (fun _ _ _ h => h) (Or.inl ⟨by rfl, ?_⟩) ?_ ?_
                        rotate_left
                        · intro w'
                          go_simp
                          with_reducible rfl
                        rotate_left
                        · simp only [Act.put, List.setIfInBounds_toArray, List.set_cons_zero, List.set_cons_succ, i64_w, i32_w]
                          rfl
                        refine pure_ (i := 22) (N := some 34) (v := ?_) (a' := ?_) #[true, true, true, true, true, true, true, true, true, true, true, true, true, true, true, true, true, true, true, true, true, true, true, false] rfl rfl (any_of HT_.out (by kernel_rfl)) (fun _ _ _ h => h) (Or.inl ⟨by rfl, ?_⟩) ?_ ?_
                        rotate_left
                        · intro w'
                          go_simp
                          with_reducible rfl
                        rotate_left
                        · simp only [Act.put, List.setIfInBounds_toArray, List.set_cons_zero, List.set_cons_succ, i64_w, i32_w]
                          rfl
                        refine pure_ (i := 23) (N := some 35) (v := ?_) (a' := ?_) #[true, true, true, true, true, true, true, true, true, true, true, true, true, true, true, true, true, true, true, true, true, true, true, true] rfl rfl (any_of HT_.out (by kernel_rfl)) (fun _ _ _ h => h) (Or.inl ⟨by rfl, ?_⟩) ?_ ?_
                        rotate_left
                        · intro w'
                          go_simp
                          with_reducible rfl
                        rotate_left
                        · simp only [Act.put, List.setIfInBounds_toArray, List.set_cons_zero, List.set_cons_succ, i64_w, i32_w]
                          rfl
                        refine done_ (done_of HT_.out (by kernel_rfl)) ?_
                        try go_wp2
                        go_ret
                        exact ⟨by first | rfl | (simp [errW_none, errW_some] <;> rfl) | (simp only [← hji10]; first | rfl | (simp [errW_none, errW_some] <;> rfl)) | (simp [*, errW_none, errW_some] <;> rfl), by repeat (first | (with_reducible first | exact HB.out | apply below_alloc | apply pw_below_drewN | apply below_drew1 | refine below_set ?_ GE166.out) | exact HB.out)⟩
                      · rw [if_neg c14] at H
                        have c14b0 : decide (0 ≤ t170) = false := decide_eq_false c14
                        clear c14
                        have H' := Aside0.mk H
                        clear H
                        have p165 : 0 ≤ (x7_1 : Int) := of_decide_eq_true (by first | (with_reducible assumption) | assumption)
                        have q165 : x7_1 < (l0.length : Int) := of_decide_eq_true (by first | (with_reducible assumption) | assumption)
                        obtain ⟨ad165, e165, hx165_0, hx165_1, hx165_2, hx165_3, hx165_4, hx165_5, hx165_6, hx165_7, hx165_8⟩ := at_T135 HR0.out x7_1 p165 q165
                        cases e165
                        replace hx165_0 := (HB.out.cell (World.block_lt_of_cell? w _ hx165_0)).trans hx165_0
                        replace hx165_1 := (HB.out.cell (World.block_lt_of_cell? w _ hx165_1)).trans hx165_1
                        replace hx165_2 := (HB.out.cell (World.block_lt_of_cell? w _ hx165_2)).trans hx165_2
                        replace hx165_3 := (HB.out.cell (World.block_lt_of_cell? w _ hx165_3)).trans hx165_3
                        replace hx165_4 := (HB.out.cell (World.block_lt_of_cell? w _ hx165_4)).trans hx165_4
                        replace hx165_5 := (HB.out.cell (World.block_lt_of_cell? w _ hx165_5)).trans hx165_5
                        replace hx165_6 := (HB.out.cell (World.block_lt_of_cell? w _ hx165_6)).trans hx165_6
                        replace hx165_7 := (HB.out.cell (World.block_lt_of_cell? w _ hx165_7)).trans hx165_7
                        replace hx165_8 := (HB.out.cell (World.block_lt_of_cell? w _ hx165_8)).trans hx165_8
                        replace p165 := eq_true p165
                        replace q165 := eq_true q165
                        try go_wp2_with (first | ((with_reducible refine gate_dst (N := 4) rfl ?_); refine box_event ?hg (N := 4) ?hd (cs := #[.int .i64 0, .bool false, .int .i64 0, .int .i64 0, .int .i64 0, .int .i64 0, .int .i64 0, .int .i64 0, .bool false]) (t := 135) ?hr ?_; (case hd => rfl); (case hg => rfl); (case hr => first | (go_simp; done) | (go_simp; rfl)); intro gb166 hg w21 hbox hb; have n0_ := Aside0.mk (below_step (by repeat (first | (with_reducible first | exact HB.out | apply below_alloc | apply pw_below_drewN | apply below_drew1) | exact HB.out)) hb); have n1_ := Aside0.mk (hbox); have n2_ := Aside0.mk ((by rw [hg]; exact (below_size (by repeat (first | (with_reducible first | exact HB.out | apply below_alloc | apply pw_below_drewN | apply below_drew1) | exact HB.out))) : w.heap.size ≤ gb166)); have n3_ := Aside0.mk ((by rw [hg]; exact (below_size (by repeat (first | (with_reducible first | exact HB.out | apply below_alloc | apply pw_below_drewN | apply below_drew1) | exact HB.out))) : w.heap.size ≤ gb166)); clear HB; have HB := n0_; have BK166 := n1_; have GW166 := n2_; have GE166 := n3_; clear n0_ n1_ n2_ n3_; clear hb hbox hg; have hcz22_0 : w21.cell? ⟨gb166, 0, none⟩ = some (.int .i64 0) := (blk_cell BK166.out 0).trans rfl; have hcz22_1 : w21.cell? ⟨gb166, 1, none⟩ = some (.bool false) := (blk_cell BK166.out 1).trans rfl; have hcz22_2 : w21.cell? ⟨gb166, 2, none⟩ = some (.int .i64 0) := (blk_cell BK166.out 2).trans rfl; have hcz22_3 : w21.cell? ⟨gb166, 3, none⟩ = some (.int .i64 0) := (blk_cell BK166.out 3).trans rfl; have hcz22_4 : w21.cell? ⟨gb166, 4, none⟩ = some (.int .i64 0) := (blk_cell BK166.out 4).trans rfl; have hcz22_5 : w21.cell? ⟨gb166, 5, none⟩ = some (.int .i64 0) := (blk_cell BK166.out 5).trans rfl; have hcz22_6 : w21.cell? ⟨gb166, 6, none⟩ = some (.int .i64 0) := (blk_cell BK166.out 6).trans rfl; have hcz22_7 : w21.cell? ⟨gb166, 7, none⟩ = some (.int .i64 0) := (blk_cell BK166.out 7).trans rfl; have hcz22_8 : w21.cell? ⟨gb166, 8, none⟩ = some (.bool false) := (blk_cell BK166.out 8).trans rfl; have hfz22_0 := blk_frozen BK166.out 0; have hfz22_1 := blk_frozen BK166.out 1; have hfz22_2 := blk_frozen BK166.out 2; have hfz22_3 := blk_frozen BK166.out 3; have hfz22_4 := blk_frozen BK166.out 4; have hfz22_5 := blk_frozen BK166.out 5; have hfz22_6 := blk_frozen BK166.out 6; have hfz22_7 := blk_frozen BK166.out 7; have hfz22_8 := blk_frozen BK166.out 8))
                        have n0_ : Aside0 ((((((((((w21.setCell ⟨gb166, 0, none⟩ (.int .i64 ((rd_T135 l0 x7_1).f0))).setCell ⟨gb166, 1, none⟩ (.bool ((rd_T135 l0 x7_1).f1))).setCell ⟨gb166, 2, none⟩ (.int .i64 ((rd_T135 l0 x7_1).f2.f0))).setCell ⟨gb166, 3, none⟩ (.int .i64 ((rd_T135 l0 x7_1).f2.f1))).setCell ⟨gb166, 4, none⟩ (.int .i64 ((rd_T135 l0 x7_1).f2.f2))).setCell ⟨gb166, 5, none⟩ (.int .i64 ((rd_T135 l0 x7_1).f2.f3))).setCell ⟨gb166, 6, none⟩ (.int .i64 ((rd_T135 l0 x7_1).f2.f4))).setCell ⟨gb166, 7, none⟩ (.int .i64 ((rd_T135 l0 x7_1).f2.f5))).setCell ⟨gb166, 8, none⟩ (.bool ((rd_T135 l0 x7_1).f2.f6))).heap[gb166]? = some (.cells #[.int .i64 ((rd_T135 l0 x7_1).f0), .bool ((rd_T135 l0 x7_1).f1), .int .i64 ((rd_T135 l0 x7_1).f2.f0), .int .i64 ((rd_T135 l0 x7_1).f2.f1), .int .i64 ((rd_T135 l0 x7_1).f2.f2), .int .i64 ((rd_T135 l0 x7_1).f2.f3), .int .i64 ((rd_T135 l0 x7_1).f2.f4), .int .i64 ((rd_T135 l0 x7_1).f2.f5), .bool ((rd_T135 l0 x7_1).f2.f6)] 135 (0, 0))) := ⟨by (with_reducible repeat (first | refine blk_drewN ?_ _ | refine blk_drew ?_ | refine blk_alloc ?_ _)); refine blk_put (cs := #[.int .i64 ((rd_T135 l0 x7_1).f0), .bool ((rd_T135 l0 x7_1).f1), .int .i64 ((rd_T135 l0 x7_1).f2.f0), .int .i64 ((rd_T135 l0 x7_1).f2.f1), .int .i64 ((rd_T135 l0 x7_1).f2.f2), .int .i64 ((rd_T135 l0 x7_1).f2.f3), .int .i64 ((rd_T135 l0 x7_1).f2.f4), .int .i64 ((rd_T135 l0 x7_1).f2.f5), .bool false]) ?_ 8 _ (by first | rfl | (subst_vars; rfl)); (with_reducible repeat (first | refine blk_drewN ?_ _ | refine blk_drew ?_ | refine blk_alloc ?_ _)); refine blk_put (cs := #[.int .i64 ((rd_T135 l0 x7_1).f0), .bool ((rd_T135 l0 x7_1).f1), .int .i64 ((rd_T135 l0 x7_1).f2.f0), .int .i64 ((rd_T135 l0 x7_1).f2.f1), .int .i64 ((rd_T135 l0 x7_1).f2.f2), .int .i64 ((rd_T135 l0 x7_1).f2.f3), .int .i64 ((rd_T135 l0 x7_1).f2.f4), .int .i64 0, .bool false]) ?_ 7 _ (by first | rfl | (subst_vars; rfl)); (with_reducible repeat (first | refine blk_drewN ?_ _ | refine blk_drew ?_ | refine blk_alloc ?_ _)); refine blk_put (cs := #[.int .i64 ((rd_T135 l0 x7_1).f0), .bool ((rd_T135 l0 x7_1).f1), .int .i64 ((rd_T135 l0 x7_1).f2.f0), .int .i64 ((rd_T135 l0 x7_1).f2.f1), .int .i64 ((rd_T135 l0 x7_1).f2.f2), .int .i64 ((rd_T135 l0 x7_1).f2.f3), .int .i64 0, .int .i64 0, .bool false]) ?_ 6 _ (by first | rfl | (subst_vars; rfl)); (with_reducible repeat (first | refine blk_drewN ?_ _ | refine blk_drew ?_ | refine blk_alloc ?_ _)); refine blk_put (cs := #[.int .i64 ((rd_T135 l0 x7_1).f0), .bool ((rd_T135 l0 x7_1).f1), .int .i64 ((rd_T135 l0 x7_1).f2.f0), .int .i64 ((rd_T135 l0 x7_1).f2.f1), .int .i64 ((rd_T135 l0 x7_1).f2.f2), .int .i64 0, .int .i64 0, .int .i64 0, .bool false]) ?_ 5 _ (by first | rfl | (subst_vars; rfl)); (with_reducible repeat (first | refine blk_drewN ?_ _ | refine blk_drew ?_ | refine blk_alloc ?_ _)); refine blk_put (cs := #[.int .i64 ((rd_T135 l0 x7_1).f0), .bool ((rd_T135 l0 x7_1).f1), .int .i64 ((rd_T135 l0 x7_1).f2.f0), .int .i64 ((rd_T135 l0 x7_1).f2.f1), .int .i64 0, .int .i64 0, .int .i64 0, .int .i64 0, .bool false]) ?_ 4 _ (by first | rfl | (subst_vars; rfl)); (with_reducible repeat (first | refine blk_drewN ?_ _ | refine blk_drew ?_ | refine blk_alloc ?_ _)); refine blk_put (cs := #[.int .i64 ((rd_T135 l0 x7_1).f0), .bool ((rd_T135 l0 x7_1).f1), .int .i64 ((rd_T135 l0 x7_1).f2.f0), .int .i64 0, .int .i64 0, .int .i64 0, .int .i64 0, .int .i64 0, .bool false]) ?_ 3 _ (by first | rfl | (subst_vars; rfl)); (with_reducible repeat (first | refine blk_drewN ?_ _ | refine blk_drew ?_ | refine blk_alloc ?_ _)); refine blk_put (cs := #[.int .i64 ((rd_T135 l0 x7_1).f0), .bool ((rd_T135 l0 x7_1).f1), .int .i64 0, .int .i64 0, .int .i64 0, .int .i64 0, .int .i64 0, .int .i64 0, .bool false]) ?_ 2 _ (by first | rfl | (subst_vars; rfl)); (with_reducible repeat (first | refine blk_drewN ?_ _ | refine blk_drew ?_ | refine blk_alloc ?_ _)); refine blk_put (cs := #[.int .i64 ((rd_T135 l0 x7_1).f0), .bool false, .int .i64 0, .int .i64 0, .int .i64 0, .int .i64 0, .int .i64 0, .int .i64 0, .bool false]) ?_ 1 _ (by first | rfl | (subst_vars; rfl)); (with_reducible repeat (first | refine blk_drewN ?_ _ | refine blk_drew ?_ | refine blk_alloc ?_ _)); refine blk_put (cs := #[.int .i64 0, .bool false, .int .i64 0, .int .i64 0, .int .i64 0, .int .i64 0, .int .i64 0, .int .i64 0, .bool false]) ?_ 0 _ (by first | rfl | (subst_vars; rfl)); (with_reducible repeat (first | refine blk_drewN ?_ _ | refine blk_drew ?_ | refine blk_alloc ?_ _)); exact BK166.out⟩
                        have n1_ : Aside0 (Below w.heap.size w (((((((((w21.setCell ⟨gb166, 0, none⟩ (.int .i64 ((rd_T135 l0 x7_1).f0))).setCell ⟨gb166, 1, none⟩ (.bool ((rd_T135 l0 x7_1).f1))).setCell ⟨gb166, 2, none⟩ (.int .i64 ((rd_T135 l0 x7_1).f2.f0))).setCell ⟨gb166, 3, none⟩ (.int .i64 ((rd_T135 l0 x7_1).f2.f1))).setCell ⟨gb166, 4, none⟩ (.int .i64 ((rd_T135 l0 x7_1).f2.f2))).setCell ⟨gb166, 5, none⟩ (.int .i64 ((rd_T135 l0 x7_1).f2.f3))).setCell ⟨gb166, 6, none⟩ (.int .i64 ((rd_T135 l0 x7_1).f2.f4))).setCell ⟨gb166, 7, none⟩ (.int .i64 ((rd_T135 l0 x7_1).f2.f5))).setCell ⟨gb166, 8, none⟩ (.bool ((rd_T135 l0 x7_1).f2.f6)))) := ⟨by repeat (first | (with_reducible first | exact HB.out | apply below_alloc | apply pw_below_drewN | apply below_drew1 | refine below_set ?_ GE166.out) | exact HB.out)⟩
                        (try clear BK166)
                        (try clear HB)
                        generalize (((((((((w21.setCell ⟨gb166, 0, none⟩ (.int .i64 ((rd_T135 l0 x7_1).f0))).setCell ⟨gb166, 1, none⟩ (.bool ((rd_T135 l0 x7_1).f1))).setCell ⟨gb166, 2, none⟩ (.int .i64 ((rd_T135 l0 x7_1).f2.f0))).setCell ⟨gb166, 3, none⟩ (.int .i64 ((rd_T135 l0 x7_1).f2.f1))).setCell ⟨gb166, 4, none⟩ (.int .i64 ((rd_T135 l0 x7_1).f2.f2))).setCell ⟨gb166, 5, none⟩ (.int .i64 ((rd_T135 l0 x7_1).f2.f3))).setCell ⟨gb166, 6, none⟩ (.int .i64 ((rd_T135 l0 x7_1).f2.f4))).setCell ⟨gb166, 7, none⟩ (.int .i64 ((rd_T135 l0 x7_1).f2.f5))).setCell ⟨gb166, 8, none⟩ (.bool ((rd_T135 l0 x7_1).f2.f6))) = w23 at n0_ n1_ ⊢
                        have BK166 := n0_
                        have HB := n1_
                        clear n0_ n1_
                        have n0_ := Aside0.mk (blk_drew BK166.out)
                        have n1_ := Aside0.mk (below_drew1 HB.out)
                        clear BK166
                        clear HB
                        have BK166 := n0_
                        have HB := n1_
                        clear n0_ n1_
                        have p169 : 0 ≤ ((ji10) : Int) := of_decide_eq_true (by first | (with_reducible assumption) | assumption)
                        have q169 : (ji10) < (l0.length : Int) := of_decide_eq_true (by first | (with_reducible assumption) | assumption)
                        obtain ⟨ad169, e169, hx169_0, hx169_1, hx169_2, hx169_3, hx169_4, hx169_5, hx169_6, hx169_7, hx169_8⟩ := at_T135 HR0.out (ji10) p169 q169
                        have hw169_8 := hx169_8
                        have hw169_7 := hx169_7
                        have hw169_6 := hx169_6
                        have hw169_5 := hx169_5
                        have hw169_4 := hx169_4
                        have hw169_3 := hx169_3
                        have hw169_2 := hx169_2
                        have hw169_1 := hx169_1
                        have hw169_0 := hx169_0
                        obtain rfl : ad165 = ad169 := (by injection e169)
                        replace hx169_0 := (HB.out.cell (World.block_lt_of_cell? w _ hx169_0)).trans hx169_0
                        replace hx169_1 := (HB.out.cell (World.block_lt_of_cell? w _ hx169_1)).trans hx169_1
                        replace hx169_2 := (HB.out.cell (World.block_lt_of_cell? w _ hx169_2)).trans hx169_2
                        replace hx169_3 := (HB.out.cell (World.block_lt_of_cell? w _ hx169_3)).trans hx169_3
                        replace hx169_4 := (HB.out.cell (World.block_lt_of_cell? w _ hx169_4)).trans hx169_4
                        replace hx169_5 := (HB.out.cell (World.block_lt_of_cell? w _ hx169_5)).trans hx169_5
                        replace hx169_6 := (HB.out.cell (World.block_lt_of_cell? w _ hx169_6)).trans hx169_6
                        replace hx169_7 := (HB.out.cell (World.block_lt_of_cell? w _ hx169_7)).trans hx169_7
                        replace hx169_8 := (HB.out.cell (World.block_lt_of_cell? w _ hx169_8)).trans hx169_8
                        replace p169 := eq_true p169
                        replace q169 := eq_true q169
                        refine start_ (n := 24) (S := fun w' => w'.cell? ⟨gb166, 0, none⟩ = some (.int .i64 ((rd_T135 l0 x7_1).f0)) ∧ w'.cell? ⟨gb166, 1, none⟩ = some (.bool ((rd_T135 l0 x7_1).f1)) ∧ w'.cell? ⟨gb166, 2, none⟩ = some (.int .i64 ((rd_T135 l0 x7_1).f2.f0)) ∧ w'.cell? ⟨gb166, 3, none⟩ = some (.int .i64 ((rd_T135 l0 x7_1).f2.f1)) ∧ w'.cell? ⟨gb166, 4, none⟩ = some (.int .i64 ((rd_T135 l0 x7_1).f2.f2)) ∧ w'.cell? ⟨gb166, 5, none⟩ = some (.int .i64 ((rd_T135 l0 x7_1).f2.f3)) ∧ w'.cell? ⟨gb166, 6, none⟩ = some (.int .i64 ((rd_T135 l0 x7_1).f2.f4)) ∧ w'.cell? ⟨gb166, 7, none⟩ = some (.int .i64 ((rd_T135 l0 x7_1).f2.f5)) ∧ w'.cell? ⟨gb166, 8, none⟩ = some (.bool ((rd_T135 l0 x7_1).f2.f6)) ∧ w'.cell? (ad165.add (((ji10)).toNat * 9)) = some (.int .i64 ((rd_T135 l0 (ji10)).f0)) ∧ w'.cell? ⟨(ad165.add (((ji10)).toNat * 9)).block, (ad165.add (((ji10)).toNat * 9)).off + 1, none⟩ = some (.bool ((rd_T135 l0 (ji10)).f1)) ∧ w'.cell? ⟨(ad165.add (((ji10)).toNat * 9)).block, (ad165.add (((ji10)).toNat * 9)).off + 2, none⟩ = some (.int .i64 ((rd_T135 l0 (ji10)).f2.f0)) ∧ w'.cell? ⟨(ad165.add (((ji10)).toNat * 9)).block, (ad165.add (((ji10)).toNat * 9)).off + 3, none⟩ = some (.int .i64 ((rd_T135 l0 (ji10)).f2.f1)) ∧ w'.cell? ⟨(ad165.add (((ji10)).toNat * 9)).block, (ad165.add (((ji10)).toNat * 9)).off + 4, none⟩ = some (.int .i64 ((rd_T135 l0 (ji10)).f2.f2)) ∧ w'.cell? ⟨(ad165.add (((ji10)).toNat * 9)).block, (ad165.add (((ji10)).toNat * 9)).off + 5, none⟩ = some (.int .i64 ((rd_T135 l0 (ji10)).f2.f3)) ∧ w'.cell? ⟨(ad165.add (((ji10)).toNat * 9)).block, (ad165.add (((ji10)).toNat * 9)).off + 6, none⟩ = some (.int .i64 ((rd_T135 l0 (ji10)).f2.f4)) ∧ w'.cell? ⟨(ad165.add (((ji10)).toNat * 9)).block, (ad165.add (((ji10)).toNat * 9)).off + 7, none⟩ = some (.int .i64 ((rd_T135 l0 (ji10)).f2.f5)) ∧ w'.cell? ⟨(ad165.add (((ji10)).toNat * 9)).block, (ad165.add (((ji10)).toNat * 9)).off + 8, none⟩ = some (.bool ((rd_T135 l0 (ji10)).f2.f6))) (ds := []) #[false, false, false, false, false, false, false, false, false, false, false, false, false, false, false, false, false, false, false, false, false, false, false, false] (by kernel_rfl) rfl rfl ⟨(blk_cell BK166.out 0).trans rfl, (blk_cell BK166.out 1).trans rfl, (blk_cell BK166.out 2).trans rfl, (blk_cell BK166.out 3).trans rfl, (blk_cell BK166.out 4).trans rfl, (blk_cell BK166.out 5).trans rfl, (blk_cell BK166.out 6).trans rfl, (blk_cell BK166.out 7).trans rfl, (blk_cell BK166.out 8).trans rfl, ((HB.out.cell (World.block_lt_of_cell? _ _ hw169_0)).trans hw169_0), ((HB.out.cell (World.block_lt_of_cell? _ _ hw169_1)).trans hw169_1), ((HB.out.cell (World.block_lt_of_cell? _ _ hw169_2)).trans hw169_2), ((HB.out.cell (World.block_lt_of_cell? _ _ hw169_3)).trans hw169_3), ((HB.out.cell (World.block_lt_of_cell? _ _ hw169_4)).trans hw169_4), ((HB.out.cell (World.block_lt_of_cell? _ _ hw169_5)).trans hw169_5), ((HB.out.cell (World.block_lt_of_cell? _ _ hw169_6)).trans hw169_6), ((HB.out.cell (World.block_lt_of_cell? _ _ hw169_7)).trans hw169_7), ((HB.out.cell (World.block_lt_of_cell? _ _ hw169_8)).trans hw169_8)⟩ (fun hHeld => ?_); refine with_tabW impl_RibRight.tab4 impl_RibRight.bits4 (fun HT_ HW_ => ?_)
                        generalize w23.drew = w24 at BK166 HB hx169_0 hx169_1 hx169_2 hx169_3 hx169_4 hx169_5 hx169_6 hx169_7 hx169_8 hHeld ⊢
                        refine pure_ (i := 0) (N := some 12) (v := ?_) (a' := ?_) #[true, false, false, false, false, false, false, false, false, false, false, false, false, false, false, false, false, false, false, false, false, false, false, false] rfl rfl (any_of HT_.out (by kernel_rfl)) (fun _ _ _ h => h) (Or.inl ⟨by rfl, ?_⟩) ?_ ?_
                        rotate_left
                        · intro w'
                          go_simp
                          with_reducible rfl
                        rotate_left
                        · simp only [Act.put, List.setIfInBounds_toArray, List.set_cons_zero, List.set_cons_succ, i64_w, i32_w]
                          rfl
                        refine take_ (i := 1) (N := some 13) (v := ?_) (a' := ?_) #[true, true, false, false, false, false, false, false, false, false, false, false, false, false, false, false, false, false, false, false, false, false, false, false] rfl rfl (take_ofW HT_.out HW_.out (by kernel_rfl)) (fun _ _ _ h => h) (Or.inl ⟨by rfl, ?_⟩) hHeld ?_ ?_
                        rotate_left
                        · rintro w' ⟨s0, s1, s2, s3, s4, s5, s6, s7, s8, s9, s10, s11, s12, s13, s14, s15, s16, s17⟩
                          go_simp
                          with_reducible rfl
                        rotate_left
                        · simp only [Act.put, List.setIfInBounds_toArray, List.set_cons_zero, List.set_cons_succ, i64_w, i32_w]
                          rfl
                        refine one_ (i := 2) (N := some 14) #[true, true, true, false, false, false, false, false, false, false, false, false, false, false, false, false, false, false, false, false, false, false, false, false] rfl rfl (one_of HT_.out (by kernel_rfl)) (by decide) (fun K hK => ?_)
                        refine goes_ Try.func123 (by kernel_rfl) rfl #[.int .i64 ((rd_T135 l0 x7_1).f0)] (by rfl) rfl rfl (by (try simp only [List.map_toArray, List.map_cons, List.map_nil]); first | done | rfl | (simp only [List.length_drop, List.length_take]; rfl)) ?_
                        with_reducible refine (impl_isPeer.calls ((rd_T135 l0 x7_1).f0) true _ A5.out).mono ?_
                        rintro e w' ⟨rfl, ⟨nd, rfl⟩⟩
                        refine ⟨_, rfl, ?_⟩
                        refine hK.out _ _ ⟨(blk_cell BK166.out 0).trans rfl, (blk_cell BK166.out 1).trans rfl, (blk_cell BK166.out 2).trans rfl, (blk_cell BK166.out 3).trans rfl, (blk_cell BK166.out 4).trans rfl, (blk_cell BK166.out 5).trans rfl, (blk_cell BK166.out 6).trans rfl, (blk_cell BK166.out 7).trans rfl, (blk_cell BK166.out 8).trans rfl, ((HB.out.cell (World.block_lt_of_cell? _ _ hw169_0)).trans hw169_0), ((HB.out.cell (World.block_lt_of_cell? _ _ hw169_1)).trans hw169_1), ((HB.out.cell (World.block_lt_of_cell? _ _ hw169_2)).trans hw169_2), ((HB.out.cell (World.block_lt_of_cell? _ _ hw169_3)).trans hw169_3), ((HB.out.cell (World.block_lt_of_cell? _ _ hw169_4)).trans hw169_4), ((HB.out.cell (World.block_lt_of_cell? _ _ hw169_5)).trans hw169_5), ((HB.out.cell (World.block_lt_of_cell? _ _ hw169_6)).trans hw169_6), ((HB.out.cell (World.block_lt_of_cell? _ _ hw169_7)).trans hw169_7), ((HB.out.cell (World.block_lt_of_cell? _ _ hw169_8)).trans hw169_8)⟩ (fun hHeld => ?_)
                        clear hK K
                        refine norm_ (a' := ?_) ?_ ?_
                        rotate_left
                        · show Act.put _ (some 14) _ = _
                          simp only [Act.put, List.setIfInBounds_toArray, List.set_cons_zero, List.set_cons_succ, i64_w, i32_w]
                          rfl
                        refine pure_ (i := 3) (N := some 15) (v := ?_) (a' := ?_) #[true, true, true, true, false, false, false, false, false, false, false, false, false, false, false, false, false, false, false, false, false, false, false, false] rfl rfl (any_of HT_.out (by kernel_rfl)) (fun _ _ _ h => h) (Or.inl ⟨by rfl, ?_⟩) ?_ ?_
                        rotate_left
                        · intro w'
                          go_simp
                          with_reducible rfl
                        rotate_left
                        · simp only [Act.put, List.setIfInBounds_toArray, List.set_cons_zero, List.set_cons_succ, i64_w, i32_w]
                          rfl
                        refine pure_ (i := 4) (N := some 16) (v := ?_) (a' := ?_) #[true, true, true, true, true, false, false, false, false, false, false, false, false, false, false, false, false, false, false, false, false, false, false, false] rfl rfl (any_of HT_.out (by kernel_rfl)) (fun _ _ _ h => h) (Or.inl ⟨by rfl, ?_⟩) ?_ ?_
                        rotate_left
                        · intro w'
                          go_simp
                          with_reducible rfl
                        rotate_left
                        · simp only [Act.put, List.setIfInBounds_toArray, List.set_cons_zero, List.set_cons_succ, i64_w, i32_w]
                          rfl
                        refine pure_ (i := 5) (N := some 17) (v := ?_) (a' := ?_) #[true, true, true, true, true, true, false, false, false, false, false, false, false, false, false, false, false, false, false, false, false, false, false, false] rfl rfl (any_of HT_.out (by kernel_rfl)) (fun _ _ _ h => h) (Or.inl ⟨by rfl, ?_⟩) ?_ ?_
                        rotate_left
                        · intro w'
                          go_simp
                          with_reducible rfl
                        rotate_left
                        · simp only [Act.put, List.setIfInBounds_toArray, List.set_cons_zero, List.set_cons_succ, i64_w, i32_w]
                          rfl
                        refine take_ (i := 6) (N := some 18) (v := ?_) (a' := ?_) #[true, true, true, true, true, true, true, false, false, false, false, false, false, false, false, false, false, false, false, false, false, false, false, false] rfl rfl (take_ofW HT_.out HW_.out (by kernel_rfl)) (fun _ _ _ h => h) (Or.inl ⟨by rfl, ?_⟩) hHeld ?_ ?_
                        rotate_left
                        · rintro w' ⟨s0, s1, s2, s3, s4, s5, s6, s7, s8, s9, s10, s11, s12, s13, s14, s15, s16, s17⟩
                          go_simp
                          with_reducible rfl
                        rotate_left
                        · simp only [Act.put, List.setIfInBounds_toArray, List.set_cons_zero, List.set_cons_succ, i64_w, i32_w]
                          rfl
                        refine one_ (i := 7) (N := some 19) #[true, true, true, true, true, true, true, true, false, false, false, false, false, false, false, false, false, false, false, false, false, false, false, false] rfl rfl (one_of HT_.out (by kernel_rfl)) (by decide) (fun K hK => ?_)
                        refine goes_ Try.func124 (by kernel_rfl) rfl #[.agg #[.int .i64 ((rd_T135 l0 x7_1).f2.f0), .int .i64 ((rd_T135 l0 x7_1).f2.f1), .int .i64 ((rd_T135 l0 x7_1).f2.f2), .int .i64 ((rd_T135 l0 x7_1).f2.f3), .int .i64 ((rd_T135 l0 x7_1).f2.f4), .int .i64 ((rd_T135 l0 x7_1).f2.f5), .bool ((rd_T135 l0 x7_1).f2.f6)]] (by rfl) rfl rfl (by (try simp only [List.map_toArray, List.map_cons, List.map_nil]); first | done | rfl | (simp only [List.length_drop, List.length_take]; rfl)) ?_
                        with_reducible refine (impl_RouteRight.calls k1 ((rd_T135 l0 x7_1).f2.f0) ((rd_T135 l0 x7_1).f2.f1) ((rd_T135 l0 x7_1).f2.f2) ((rd_T135 l0 x7_1).f2.f3) ((rd_T135 l0 x7_1).f2.f4) ((rd_T135 l0 x7_1).f2.f5) ((rd_T135 l0 x7_1).f2.f6) true _ A7.out).mono ?_
                        rintro e w25 ⟨rfl, hb⟩
                        refine ⟨_, rfl, ?_⟩
                        have n0_ := Aside0.mk (blk_below (g := gb166) (o := .cells #[.int .i64 ((rd_T135 l0 x7_1).f0), .bool ((rd_T135 l0 x7_1).f1), .int .i64 ((rd_T135 l0 x7_1).f2.f0), .int .i64 ((rd_T135 l0 x7_1).f2.f1), .int .i64 ((rd_T135 l0 x7_1).f2.f2), .int .i64 ((rd_T135 l0 x7_1).f2.f3), .int .i64 ((rd_T135 l0 x7_1).f2.f4), .int .i64 ((rd_T135 l0 x7_1).f2.f5), .bool ((rd_T135 l0 x7_1).f2.f6)] 135 (0, 0)) (by (with_reducible repeat (first | refine blk_drewN ?_ _ | refine blk_drew ?_ | refine blk_alloc ?_ _)); exact BK166.out) hb)
                        have n1_ := Aside0.mk (below_step (by repeat (first | (with_reducible first | exact HB.out | apply below_alloc | apply pw_below_drewN | apply below_drew1 | refine below_set ?_ GE166.out) | exact HB.out)) hb)
                        clear BK166
                        clear HB
                        have BK166 := n0_
                        have HB := n1_
                        clear n0_ n1_
                        (try clear hb)
                        (try clear hb2)
                        (try clear hk)
                        (try clear hi)
                        refine hK.out _ _ ⟨(blk_cell BK166.out 0).trans rfl, (blk_cell BK166.out 1).trans rfl, (blk_cell BK166.out 2).trans rfl, (blk_cell BK166.out 3).trans rfl, (blk_cell BK166.out 4).trans rfl, (blk_cell BK166.out 5).trans rfl, (blk_cell BK166.out 6).trans rfl, (blk_cell BK166.out 7).trans rfl, (blk_cell BK166.out 8).trans rfl, ((HB.out.cell (World.block_lt_of_cell? _ _ hw169_0)).trans hw169_0), ((HB.out.cell (World.block_lt_of_cell? _ _ hw169_1)).trans hw169_1), ((HB.out.cell (World.block_lt_of_cell? _ _ hw169_2)).trans hw169_2), ((HB.out.cell (World.block_lt_of_cell? _ _ hw169_3)).trans hw169_3), ((HB.out.cell (World.block_lt_of_cell? _ _ hw169_4)).trans hw169_4), ((HB.out.cell (World.block_lt_of_cell? _ _ hw169_5)).trans hw169_5), ((HB.out.cell (World.block_lt_of_cell? _ _ hw169_6)).trans hw169_6), ((HB.out.cell (World.block_lt_of_cell? _ _ hw169_7)).trans hw169_7), ((HB.out.cell (World.block_lt_of_cell? _ _ hw169_8)).trans hw169_8)⟩ (fun hHeld => ?_)
                        clear hK K
                        refine norm_ (a' := ?_) ?_ ?_
                        rotate_left
                        · show Act.put _ (some 19) _ = _
                          simp only [Act.put, List.setIfInBounds_toArray, List.set_cons_zero, List.set_cons_succ, i64_w, i32_w]
                          rfl
                        refine pure_ (i := 8) (N := some 20) (v := ?_) (a' := ?_) #[true, true, true, true, true, true, true, true, true, false, false, false, false, false, false, false, false, false, false, false, false, false, false, false] rfl rfl (any_of HT_.out (by kernel_rfl)) (fun _ _ _ h => h) (Or.inl ⟨by rfl, ?_⟩) ?_ ?_
                        rotate_left
                        · intro w'
                          go_simp
                          with_reducible rfl
                        rotate_left
                        · simp only [Act.put, List.setIfInBounds_toArray, List.set_cons_zero, List.set_cons_succ, i64_w, i32_w]
                          rfl
                        refine pure_ (i := 9) (N := some 21) (v := ?_) (a' := ?_) #[true, true, true, true, true, true, true, true, true, true, false, false, false, false, false, false, false, false, false, false, false, false, false, false] rfl rfl (any_of HT_.out (by kernel_rfl)) (fun _ _ _ h => h) (Or.inl ⟨by rfl, ?_⟩) ?_ ?_
                        rotate_left
                        · intro w'
                          go_simp
                          with_reducible rfl
                        rotate_left
                        · simp only [Act.put, List.setIfInBounds_toArray, List.set_cons_zero, List.set_cons_succ, i64_w, i32_w]
                          rfl
                        refine pure_ (i := 10) (N := some 22) (v := ?_) (a' := ?_) #[true, true, true, true, true, true, true, true, true, true, true, false, false, false, false, false, false, false, false, false, false, false, false, false] rfl rfl (any_of HT_.out (by kernel_rfl)) (fun _ _ _ h => h) (Or.inl ⟨by rfl, ?_⟩) ?_ ?_
                        rotate_left
                        · intro w'
                          go_simp
                          with_reducible rfl
                        rotate_left
                        · simp only [Act.put, List.setIfInBounds_toArray, List.set_cons_zero, List.set_cons_succ, i64_w, i32_w]
                          rfl
                        refine pure_ (i := 11) (N := some 23) (v := ?_) (a' := ?_) #[true, true, true, true, true, true, true, true, true, true, true, true, false, false, false, false, false, false, false, false, false, false, false, false] rfl rfl (any_of HT_.out (by kernel_rfl)) (fun _ _ _ h => h) (Or.inl ⟨by rfl, ?_⟩) ?_ ?_
                        rotate_left
                        · intro w'
                          go_simp
                          with_reducible rfl
                        rotate_left
                        · simp only [Act.put, List.setIfInBounds_toArray, List.set_cons_zero, List.set_cons_succ, i64_w, i32_w]
                          rfl
                        refine pure_ (i := 12) (N := some 24) (v := ?_) (a' := ?_) #[true, true, true, true, true, true, true, true, true, true, true, true, true, false, false, false, false, false, false, false, false, false, false, false] rfl rfl (any_of HT_.out (by kernel_rfl)) (fun _ _ _ h => h) (Or.inl ⟨by rfl, ?_⟩) ?_ ?_
                        rotate_left
                        · intro w'
                          go_simp
                          with_reducible rfl
                        rotate_left
                        · simp only [Act.put, List.setIfInBounds_toArray, List.set_cons_zero, List.set_cons_succ, i64_w, i32_w]
                          rfl
                        refine pure_ (i := 13) (N := some 25) (v := ?_) (a' := ?_) #[true, true, true, true, true, true, true, true, true, true, true, true, true, true, false, false, false, false, false, false, false, false, false, false] rfl rfl (any_of HT_.out (by kernel_rfl)) (fun _ _ _ h => h) (Or.inl ⟨by rfl, ?_⟩) ?_ ?_
                        rotate_left
                        · intro w'
                          go_simp
                          with_reducible rfl
                        rotate_left
                        · simp only [Act.put, List.setIfInBounds_toArray, List.set_cons_zero, List.set_cons_succ, i64_w, i32_w]
                          rfl
                        refine pure_ (i := 14) (N := some 26) (v := ?_) (a' := ?_) #[true, true, true, true, true, true, true, true, true, true, true, true, true, true, true, false, false, false, false, false, false, false, false, false] rfl rfl (any_of HT_.out (by kernel_rfl)) (fun _ _ _ h => h) (Or.inl ⟨by rfl, ?_⟩) ?_ ?_
                        rotate_left
                        · intro w'
                          go_simp
                          with_reducible rfl
                        rotate_left
                        · simp only [Act.put, List.setIfInBounds_toArray, List.set_cons_zero, List.set_cons_succ, i64_w, i32_w]
                          rfl
                        refine pure_ (i := 15) (N := some 27) (v := ?_) (a' := ?_) #[true, true, true, true, true, true, true, true, true, true, true, true, true, true, true, true, false, false, false, false, false, false, false, false] rfl rfl (any_of HT_.out (by kernel_rfl)) (fun _ _ _ h => h) (Or.inl ⟨by rfl, ?_⟩) ?_ ?_
                        rotate_left
                        · intro w'
                          go_simp
                          with_reducible rfl
                        rotate_left
                        · simp only [Act.put, List.setIfInBounds_toArray, List.set_cons_zero, List.set_cons_succ, i64_w, i32_w]
                          rfl
                        refine pure_ (i := 16) (N := some 28) (v := ?_) (a' := ?_) #[true, true, true, true, true, true, true, true, true, true, true, true, true, true, true, true, true, false, false, false, false, false, false, false] rfl rfl (any_of HT_.out (by kernel_rfl)) (fun _ _ _ h => h) (Or.inl ⟨by rfl, ?_⟩) ?_ ?_
                        rotate_left
                        · intro w'
                          go_simp
                          with_reducible rfl
                        rotate_left
                        · simp only [Act.put, List.setIfInBounds_toArray, List.set_cons_zero, List.set_cons_succ, i64_w, i32_w]
                          rfl
                        refine pure_ (i := 17) (N := some 29) (v := ?_) (a' := ?_) #[true, true, true, true, true, true, true, true, true, true, true, true, true, true, true, true, true, true, false, false, false, false, false, false] rfl rfl (any_of HT_.out (by kernel_rfl)) (fun _ _ _ h => h) (Or.inl ⟨by rfl, ?_⟩) ?_ ?_
                        rotate_left
                        · intro w'
                          go_simp
                          with_reducible rfl
                        rotate_left
                        · simp only [Act.put, List.setIfInBounds_toArray, List.set_cons_zero, List.set_cons_succ, i64_w, i32_w]
                          rfl
                        refine take_ (i := 18) (N := some 30) (v := ?_) (a' := ?_) #[true, true, true, true, true, true, true, true, true, true, true, true, true, true, true, true, true, true, true, false, false, false, false, false] rfl rfl (take_ofW HT_.out HW_.out (by kernel_rfl)) (fun _ _ _ h => h) (Or.inl ⟨by rfl, ?_⟩) hHeld ?_ ?_
                        rotate_left
                        · rintro w' ⟨s0, s1, s2, s3, s4, s5, s6, s7, s8, s9, s10, s11, s12, s13, s14, s15, s16, s17⟩
                          go_simp
                          with_reducible rfl
                        rotate_left
                        · simp only [Act.put, List.setIfInBounds_toArray, List.set_cons_zero, List.set_cons_succ, i64_w, i32_w]
                          rfl
                        refine take_ (i := 19) (N := some 31) (v := ?_) (a' := ?_) #[true, true, true, true, true, true, true, true, true, true, true, true, true, true, true, true, true, true, true, true, false, false, false, false] rfl rfl (take_ofW HT_.out HW_.out (by kernel_rfl)) (fun _ _ _ h => h) (Or.inl ⟨by rfl, ?_⟩) hHeld ?_ ?_
                        rotate_left
                        · rintro w' ⟨s0, s1, s2, s3, s4, s5, s6, s7, s8, s9, s10, s11, s12, s13, s14, s15, s16, s17⟩
                          go_simp
                          with_reducible rfl
                        rotate_left
                        · simp only [Act.put, List.setIfInBounds_toArray, List.set_cons_zero, List.set_cons_succ, i64_w, i32_w]
                          rfl
                        refine one_ (i := 20) (N := some 32) #[true, true, true, true, true, true, true, true, true, true, true, true, true, true, true, true, true, true, true, true, true, false, false, false] rfl rfl (one_of HT_.out (by kernel_rfl)) (by decide) (fun K hK => ?_)
                        refine goes_ Try.func125 (by kernel_rfl) rfl #[.agg #[.int .i64 ((rd_T135 l0 (ji10)).f0), .bool ((rd_T135 l0 (ji10)).f1), .int .i64 ((rd_T135 l0 (ji10)).f2.f0), .int .i64 ((rd_T135 l0 (ji10)).f2.f1), .int .i64 ((rd_T135 l0 (ji10)).f2.f2), .int .i64 ((rd_T135 l0 (ji10)).f2.f3), .int .i64 ((rd_T135 l0 (ji10)).f2.f4), .int .i64 ((rd_T135 l0 (ji10)).f2.f5), .bool ((rd_T135 l0 (ji10)).f2.f6)], .agg #[.int .i64 ((rd_T135 l0 x7_1).f0), .bool ((rd_T135 l0 x7_1).f1), .int .i64 ((rd_T135 l0 x7_1).f2.f0), .int .i64 ((rd_T135 l0 x7_1).f2.f1), .int .i64 ((rd_T135 l0 x7_1).f2.f2), .int .i64 ((rd_T135 l0 x7_1).f2.f3), .int .i64 ((rd_T135 l0 x7_1).f2.f4), .int .i64 ((rd_T135 l0 x7_1).f2.f5), .bool ((rd_T135 l0 x7_1).f2.f6)]] (by rfl) rfl rfl (by (try simp only [List.map_toArray, List.map_cons, List.map_nil]); first | done | (simp only [hji10]; rfl) | rfl | (simp only [List.length_drop, List.length_take]; rfl)) ?_
                        with_reducible refine (impl_Held_order.calls k1 ((rd_T135 l0 (ji10)).f0) ((rd_T135 l0 (ji10)).f1) ((rd_T135 l0 (ji10)).f2.f0) ((rd_T135 l0 (ji10)).f2.f1) ((rd_T135 l0 (ji10)).f2.f2) ((rd_T135 l0 (ji10)).f2.f3) ((rd_T135 l0 (ji10)).f2.f4) ((rd_T135 l0 (ji10)).f2.f5) ((rd_T135 l0 (ji10)).f2.f6) ((rd_T135 l0 x7_1).f0) ((rd_T135 l0 x7_1).f1) ((rd_T135 l0 x7_1).f2.f0) ((rd_T135 l0 x7_1).f2.f1) ((rd_T135 l0 x7_1).f2.f2) ((rd_T135 l0 x7_1).f2.f3) ((rd_T135 l0 x7_1).f2.f4) ((rd_T135 l0 x7_1).f2.f5) ((rd_T135 l0 x7_1).f2.f6) t170 _ A13.out).mono ?_
                        rintro e w26 ⟨rfl, hb⟩
                        refine ⟨_, rfl, ?_⟩
                        have n0_ := Aside0.mk (blk_below (g := gb166) (o := .cells #[.int .i64 ((rd_T135 l0 x7_1).f0), .bool ((rd_T135 l0 x7_1).f1), .int .i64 ((rd_T135 l0 x7_1).f2.f0), .int .i64 ((rd_T135 l0 x7_1).f2.f1), .int .i64 ((rd_T135 l0 x7_1).f2.f2), .int .i64 ((rd_T135 l0 x7_1).f2.f3), .int .i64 ((rd_T135 l0 x7_1).f2.f4), .int .i64 ((rd_T135 l0 x7_1).f2.f5), .bool ((rd_T135 l0 x7_1).f2.f6)] 135 (0, 0)) (by (with_reducible repeat (first | refine blk_drewN ?_ _ | refine blk_drew ?_ | refine blk_alloc ?_ _)); exact BK166.out) hb)
                        have n1_ := Aside0.mk (below_step (by repeat (first | (with_reducible first | exact HB.out | apply below_alloc | apply pw_below_drewN | apply below_drew1 | refine below_set ?_ GE166.out) | exact HB.out)) hb)
                        clear BK166
                        clear HB
                        have BK166 := n0_
                        have HB := n1_
                        clear n0_ n1_
                        (try clear hb)
                        (try clear hb2)
                        (try clear hk)
                        (try clear hi)
                        refine hK.out _ _ ⟨(blk_cell BK166.out 0).trans rfl, (blk_cell BK166.out 1).trans rfl, (blk_cell BK166.out 2).trans rfl, (blk_cell BK166.out 3).trans rfl, (blk_cell BK166.out 4).trans rfl, (blk_cell BK166.out 5).trans rfl, (blk_cell BK166.out 6).trans rfl, (blk_cell BK166.out 7).trans rfl, (blk_cell BK166.out 8).trans rfl, ((HB.out.cell (World.block_lt_of_cell? _ _ hw169_0)).trans hw169_0), ((HB.out.cell (World.block_lt_of_cell? _ _ hw169_1)).trans hw169_1), ((HB.out.cell (World.block_lt_of_cell? _ _ hw169_2)).trans hw169_2), ((HB.out.cell (World.block_lt_of_cell? _ _ hw169_3)).trans hw169_3), ((HB.out.cell (World.block_lt_of_cell? _ _ hw169_4)).trans hw169_4), ((HB.out.cell (World.block_lt_of_cell? _ _ hw169_5)).trans hw169_5), ((HB.out.cell (World.block_lt_of_cell? _ _ hw169_6)).trans hw169_6), ((HB.out.cell (World.block_lt_of_cell? _ _ hw169_7)).trans hw169_7), ((HB.out.cell (World.block_lt_of_cell? _ _ hw169_8)).trans hw169_8)⟩ (fun hHeld => ?_)
                        clear hK K
                        refine norm_ (a' := ?_) ?_ ?_
                        rotate_left
                        · show Act.put _ (some 32) _ = _
                          simp only [Act.put, List.setIfInBounds_toArray, List.set_cons_zero, List.set_cons_succ, i64_w, i32_w]
                          rfl
                        refine pure_ (i := 21) (N := some 33) (v := ?_) (a' := ?_) #[true, true, true, true, true, true, true, true, true, true, true, true, true, true, true, true, true, true, true, true, true, true, false, false] rfl rfl (any_of HT_.out (by kernel_rfl)) (fun _ _ _ h => h) (Or.inl ⟨by rfl, ?_⟩) ?_ ?_
                        rotate_left
                        · intro w'
                          go_simp
                          with_reducible rfl
                        rotate_left
                        · simp only [Act.put, List.setIfInBounds_toArray, List.set_cons_zero, List.set_cons_succ, i64_w, i32_w]
                          rfl
                        refine pure_ (i := 22) (N := some 34) (v := ?_) (a' := ?_) #[true, true, true, true, true, true, true, true, true, true, true, true, true, true, true, true, true, true, true, true, true, true, true, false] rfl rfl (any_of HT_.out (by kernel_rfl)) (fun _ _ _ h => h) (Or.inl ⟨by rfl, ?_⟩) ?_ ?_
                        rotate_left
                        · intro w'
                          go_simp
                          with_reducible rfl
                        rotate_left
                        · simp only [Act.put, List.setIfInBounds_toArray, List.set_cons_zero, List.set_cons_succ, i64_w, i32_w]
                          rfl
                        refine pure_ (i := 23) (N := some 35) (v := ?_) (a' := ?_) #[true, true, true, true, true, true, true, true, true, true, true, true, true, true, true, true, true, true, true, true, true, true, true, true] rfl rfl (any_of HT_.out (by kernel_rfl)) (fun _ _ _ h => h) (Or.inl ⟨by rfl, ?_⟩) ?_ ?_
                        rotate_left
                        · intro w'
                          go_simp
                          with_reducible rfl
                        rotate_left
                        · simp only [Act.put, List.setIfInBounds_toArray, List.set_cons_zero, List.set_cons_succ, i64_w, i32_w]
                          rfl
                        refine done_ (done_of HT_.out (by kernel_rfl)) ?_
                        try go_wp2
                        go_roundg k1
                        case measure => have := HK1.out; omega
                        case rel => exact ⟨(wrap64 (x7_1 + 1)), (by first | rfl | (simp; done) | (simp [*]; done)), H', ⟨by have := HK1.out; omega⟩, ⟨by repeat (first | (with_reducible first | exact HB.out | apply below_alloc | apply pw_below_drewN | apply below_drew1 | refine below_set ?_ GE166.out) | exact HB.out)⟩⟩
                    · rw [if_neg c12] at H
                      exact absurd H (by simp)
                  · rw [if_neg c11] at H
                    exact absurd H (by simp)
                · rw [if_neg c9] at H
                  have c9b0 : decide (0 < x7_1) = false := decide_eq_false c9
                  clear c9
                  have H' := Aside0.mk H
                  clear H
                  have p165 : 0 ≤ (x7_1 : Int) := of_decide_eq_true (by first | (with_reducible assumption) | assumption)
                  have q165 : x7_1 < (l0.length : Int) := of_decide_eq_true (by first | (with_reducible assumption) | assumption)
                  obtain ⟨ad165, e165, hx165_0, hx165_1, hx165_2, hx165_3, hx165_4, hx165_5, hx165_6, hx165_7, hx165_8⟩ := at_T135 HR0.out x7_1 p165 q165
                  cases e165
                  replace hx165_0 := (HB.out.cell (World.block_lt_of_cell? w _ hx165_0)).trans hx165_0
                  replace hx165_1 := (HB.out.cell (World.block_lt_of_cell? w _ hx165_1)).trans hx165_1
                  replace hx165_2 := (HB.out.cell (World.block_lt_of_cell? w _ hx165_2)).trans hx165_2
                  replace hx165_3 := (HB.out.cell (World.block_lt_of_cell? w _ hx165_3)).trans hx165_3
                  replace hx165_4 := (HB.out.cell (World.block_lt_of_cell? w _ hx165_4)).trans hx165_4
                  replace hx165_5 := (HB.out.cell (World.block_lt_of_cell? w _ hx165_5)).trans hx165_5
                  replace hx165_6 := (HB.out.cell (World.block_lt_of_cell? w _ hx165_6)).trans hx165_6
                  replace hx165_7 := (HB.out.cell (World.block_lt_of_cell? w _ hx165_7)).trans hx165_7
                  replace hx165_8 := (HB.out.cell (World.block_lt_of_cell? w _ hx165_8)).trans hx165_8
                  replace p165 := eq_true p165
                  replace q165 := eq_true q165
                  try go_wp2_with (first | ((with_reducible refine gate_dst (N := 4) rfl ?_); refine box_event ?hg (N := 4) ?hd (cs := #[.int .i64 0, .bool false, .int .i64 0, .int .i64 0, .int .i64 0, .int .i64 0, .int .i64 0, .int .i64 0, .bool false]) (t := 135) ?hr ?_; (case hd => rfl); (case hg => rfl); (case hr => first | (go_simp; done) | (go_simp; rfl)); intro gb166 hg w27 hbox hb; have n0_ := Aside0.mk (below_step (by repeat (first | (with_reducible first | exact HB.out | apply below_alloc | apply pw_below_drewN | apply below_drew1) | exact HB.out)) hb); have n1_ := Aside0.mk (hbox); have n2_ := Aside0.mk ((by rw [hg]; exact (below_size (by repeat (first | (with_reducible first | exact HB.out | apply below_alloc | apply pw_below_drewN | apply below_drew1) | exact HB.out))) : w.heap.size ≤ gb166)); have n3_ := Aside0.mk ((by rw [hg]; exact (below_size (by repeat (first | (with_reducible first | exact HB.out | apply below_alloc | apply pw_below_drewN | apply below_drew1) | exact HB.out))) : w.heap.size ≤ gb166)); clear HB; have HB := n0_; have BK166 := n1_; have GW166 := n2_; have GE166 := n3_; clear n0_ n1_ n2_ n3_; clear hb hbox hg; have hcz28_0 : w27.cell? ⟨gb166, 0, none⟩ = some (.int .i64 0) := (blk_cell BK166.out 0).trans rfl; have hcz28_1 : w27.cell? ⟨gb166, 1, none⟩ = some (.bool false) := (blk_cell BK166.out 1).trans rfl; have hcz28_2 : w27.cell? ⟨gb166, 2, none⟩ = some (.int .i64 0) := (blk_cell BK166.out 2).trans rfl; have hcz28_3 : w27.cell? ⟨gb166, 3, none⟩ = some (.int .i64 0) := (blk_cell BK166.out 3).trans rfl; have hcz28_4 : w27.cell? ⟨gb166, 4, none⟩ = some (.int .i64 0) := (blk_cell BK166.out 4).trans rfl; have hcz28_5 : w27.cell? ⟨gb166, 5, none⟩ = some (.int .i64 0) := (blk_cell BK166.out 5).trans rfl; have hcz28_6 : w27.cell? ⟨gb166, 6, none⟩ = some (.int .i64 0) := (blk_cell BK166.out 6).trans rfl; have hcz28_7 : w27.cell? ⟨gb166, 7, none⟩ = some (.int .i64 0) := (blk_cell BK166.out 7).trans rfl; have hcz28_8 : w27.cell? ⟨gb166, 8, none⟩ = some (.bool false) := (blk_cell BK166.out 8).trans rfl; have hfz28_0 := blk_frozen BK166.out 0; have hfz28_1 := blk_frozen BK166.out 1; have hfz28_2 := blk_frozen BK166.out 2; have hfz28_3 := blk_frozen BK166.out 3; have hfz28_4 := blk_frozen BK166.out 4; have hfz28_5 := blk_frozen BK166.out 5; have hfz28_6 := blk_frozen BK166.out 6; have hfz28_7 := blk_frozen BK166.out 7; have hfz28_8 := blk_frozen BK166.out 8))
                  have n0_ : Aside0 ((((((((((w27.setCell ⟨gb166, 0, none⟩ (.int .i64 ((rd_T135 l0 x7_1).f0))).setCell ⟨gb166, 1, none⟩ (.bool ((rd_T135 l0 x7_1).f1))).setCell ⟨gb166, 2, none⟩ (.int .i64 ((rd_T135 l0 x7_1).f2.f0))).setCell ⟨gb166, 3, none⟩ (.int .i64 ((rd_T135 l0 x7_1).f2.f1))).setCell ⟨gb166, 4, none⟩ (.int .i64 ((rd_T135 l0 x7_1).f2.f2))).setCell ⟨gb166, 5, none⟩ (.int .i64 ((rd_T135 l0 x7_1).f2.f3))).setCell ⟨gb166, 6, none⟩ (.int .i64 ((rd_T135 l0 x7_1).f2.f4))).setCell ⟨gb166, 7, none⟩ (.int .i64 ((rd_T135 l0 x7_1).f2.f5))).setCell ⟨gb166, 8, none⟩ (.bool ((rd_T135 l0 x7_1).f2.f6))).heap[gb166]? = some (.cells #[.int .i64 ((rd_T135 l0 x7_1).f0), .bool ((rd_T135 l0 x7_1).f1), .int .i64 ((rd_T135 l0 x7_1).f2.f0), .int .i64 ((rd_T135 l0 x7_1).f2.f1), .int .i64 ((rd_T135 l0 x7_1).f2.f2), .int .i64 ((rd_T135 l0 x7_1).f2.f3), .int .i64 ((rd_T135 l0 x7_1).f2.f4), .int .i64 ((rd_T135 l0 x7_1).f2.f5), .bool ((rd_T135 l0 x7_1).f2.f6)] 135 (0, 0))) := ⟨by (with_reducible repeat (first | refine blk_drewN ?_ _ | refine blk_drew ?_ | refine blk_alloc ?_ _)); refine blk_put (cs := #[.int .i64 ((rd_T135 l0 x7_1).f0), .bool ((rd_T135 l0 x7_1).f1), .int .i64 ((rd_T135 l0 x7_1).f2.f0), .int .i64 ((rd_T135 l0 x7_1).f2.f1), .int .i64 ((rd_T135 l0 x7_1).f2.f2), .int .i64 ((rd_T135 l0 x7_1).f2.f3), .int .i64 ((rd_T135 l0 x7_1).f2.f4), .int .i64 ((rd_T135 l0 x7_1).f2.f5), .bool false]) ?_ 8 _ (by first | rfl | (subst_vars; rfl)); (with_reducible repeat (first | refine blk_drewN ?_ _ | refine blk_drew ?_ | refine blk_alloc ?_ _)); refine blk_put (cs := #[.int .i64 ((rd_T135 l0 x7_1).f0), .bool ((rd_T135 l0 x7_1).f1), .int .i64 ((rd_T135 l0 x7_1).f2.f0), .int .i64 ((rd_T135 l0 x7_1).f2.f1), .int .i64 ((rd_T135 l0 x7_1).f2.f2), .int .i64 ((rd_T135 l0 x7_1).f2.f3), .int .i64 ((rd_T135 l0 x7_1).f2.f4), .int .i64 0, .bool false]) ?_ 7 _ (by first | rfl | (subst_vars; rfl)); (with_reducible repeat (first | refine blk_drewN ?_ _ | refine blk_drew ?_ | refine blk_alloc ?_ _)); refine blk_put (cs := #[.int .i64 ((rd_T135 l0 x7_1).f0), .bool ((rd_T135 l0 x7_1).f1), .int .i64 ((rd_T135 l0 x7_1).f2.f0), .int .i64 ((rd_T135 l0 x7_1).f2.f1), .int .i64 ((rd_T135 l0 x7_1).f2.f2), .int .i64 ((rd_T135 l0 x7_1).f2.f3), .int .i64 0, .int .i64 0, .bool false]) ?_ 6 _ (by first | rfl | (subst_vars; rfl)); (with_reducible repeat (first | refine blk_drewN ?_ _ | refine blk_drew ?_ | refine blk_alloc ?_ _)); refine blk_put (cs := #[.int .i64 ((rd_T135 l0 x7_1).f0), .bool ((rd_T135 l0 x7_1).f1), .int .i64 ((rd_T135 l0 x7_1).f2.f0), .int .i64 ((rd_T135 l0 x7_1).f2.f1), .int .i64 ((rd_T135 l0 x7_1).f2.f2), .int .i64 0, .int .i64 0, .int .i64 0, .bool false]) ?_ 5 _ (by first | rfl | (subst_vars; rfl)); (with_reducible repeat (first | refine blk_drewN ?_ _ | refine blk_drew ?_ | refine blk_alloc ?_ _)); refine blk_put (cs := #[.int .i64 ((rd_T135 l0 x7_1).f0), .bool ((rd_T135 l0 x7_1).f1), .int .i64 ((rd_T135 l0 x7_1).f2.f0), .int .i64 ((rd_T135 l0 x7_1).f2.f1), .int .i64 0, .int .i64 0, .int .i64 0, .int .i64 0, .bool false]) ?_ 4 _ (by first | rfl | (subst_vars; rfl)); (with_reducible repeat (first | refine blk_drewN ?_ _ | refine blk_drew ?_ | refine blk_alloc ?_ _)); refine blk_put (cs := #[.int .i64 ((rd_T135 l0 x7_1).f0), .bool ((rd_T135 l0 x7_1).f1), .int .i64 ((rd_T135 l0 x7_1).f2.f0), .int .i64 0, .int .i64 0, .int .i64 0, .int .i64 0, .int .i64 0, .bool false]) ?_ 3 _ (by first | rfl | (subst_vars; rfl)); (with_reducible repeat (first | refine blk_drewN ?_ _ | refine blk_drew ?_ | refine blk_alloc ?_ _)); refine blk_put (cs := #[.int .i64 ((rd_T135 l0 x7_1).f0), .bool ((rd_T135 l0 x7_1).f1), .int .i64 0, .int .i64 0, .int .i64 0, .int .i64 0, .int .i64 0, .int .i64 0, .bool false]) ?_ 2 _ (by first | rfl | (subst_vars; rfl)); (with_reducible repeat (first | refine blk_drewN ?_ _ | refine blk_drew ?_ | refine blk_alloc ?_ _)); refine blk_put (cs := #[.int .i64 ((rd_T135 l0 x7_1).f0), .bool false, .int .i64 0, .int .i64 0, .int .i64 0, .int .i64 0, .int .i64 0, .int .i64 0, .bool false]) ?_ 1 _ (by first | rfl | (subst_vars; rfl)); (with_reducible repeat (first | refine blk_drewN ?_ _ | refine blk_drew ?_ | refine blk_alloc ?_ _)); refine blk_put (cs := #[.int .i64 0, .bool false, .int .i64 0, .int .i64 0, .int .i64 0, .int .i64 0, .int .i64 0, .int .i64 0, .bool false]) ?_ 0 _ (by first | rfl | (subst_vars; rfl)); (with_reducible repeat (first | refine blk_drewN ?_ _ | refine blk_drew ?_ | refine blk_alloc ?_ _)); exact BK166.out⟩
                  have n1_ : Aside0 (Below w.heap.size w (((((((((w27.setCell ⟨gb166, 0, none⟩ (.int .i64 ((rd_T135 l0 x7_1).f0))).setCell ⟨gb166, 1, none⟩ (.bool ((rd_T135 l0 x7_1).f1))).setCell ⟨gb166, 2, none⟩ (.int .i64 ((rd_T135 l0 x7_1).f2.f0))).setCell ⟨gb166, 3, none⟩ (.int .i64 ((rd_T135 l0 x7_1).f2.f1))).setCell ⟨gb166, 4, none⟩ (.int .i64 ((rd_T135 l0 x7_1).f2.f2))).setCell ⟨gb166, 5, none⟩ (.int .i64 ((rd_T135 l0 x7_1).f2.f3))).setCell ⟨gb166, 6, none⟩ (.int .i64 ((rd_T135 l0 x7_1).f2.f4))).setCell ⟨gb166, 7, none⟩ (.int .i64 ((rd_T135 l0 x7_1).f2.f5))).setCell ⟨gb166, 8, none⟩ (.bool ((rd_T135 l0 x7_1).f2.f6)))) := ⟨by repeat (first | (with_reducible first | exact HB.out | apply below_alloc | apply pw_below_drewN | apply below_drew1 | refine below_set ?_ GE166.out) | exact HB.out)⟩
                  (try clear BK166)
                  (try clear HB)
                  generalize (((((((((w27.setCell ⟨gb166, 0, none⟩ (.int .i64 ((rd_T135 l0 x7_1).f0))).setCell ⟨gb166, 1, none⟩ (.bool ((rd_T135 l0 x7_1).f1))).setCell ⟨gb166, 2, none⟩ (.int .i64 ((rd_T135 l0 x7_1).f2.f0))).setCell ⟨gb166, 3, none⟩ (.int .i64 ((rd_T135 l0 x7_1).f2.f1))).setCell ⟨gb166, 4, none⟩ (.int .i64 ((rd_T135 l0 x7_1).f2.f2))).setCell ⟨gb166, 5, none⟩ (.int .i64 ((rd_T135 l0 x7_1).f2.f3))).setCell ⟨gb166, 6, none⟩ (.int .i64 ((rd_T135 l0 x7_1).f2.f4))).setCell ⟨gb166, 7, none⟩ (.int .i64 ((rd_T135 l0 x7_1).f2.f5))).setCell ⟨gb166, 8, none⟩ (.bool ((rd_T135 l0 x7_1).f2.f6))) = w29 at n0_ n1_ ⊢
                  have BK166 := n0_
                  have HB := n1_
                  clear n0_ n1_
                  have n0_ := Aside0.mk (blk_drew BK166.out)
                  have n1_ := Aside0.mk (below_drew1 HB.out)
                  clear BK166
                  clear HB
                  have BK166 := n0_
                  have HB := n1_
                  clear n0_ n1_
                  refine start_ (n := 24) (S := fun w' => w'.cell? ⟨gb166, 0, none⟩ = some (.int .i64 ((rd_T135 l0 x7_1).f0)) ∧ w'.cell? ⟨gb166, 1, none⟩ = some (.bool ((rd_T135 l0 x7_1).f1)) ∧ w'.cell? ⟨gb166, 2, none⟩ = some (.int .i64 ((rd_T135 l0 x7_1).f2.f0)) ∧ w'.cell? ⟨gb166, 3, none⟩ = some (.int .i64 ((rd_T135 l0 x7_1).f2.f1)) ∧ w'.cell? ⟨gb166, 4, none⟩ = some (.int .i64 ((rd_T135 l0 x7_1).f2.f2)) ∧ w'.cell? ⟨gb166, 5, none⟩ = some (.int .i64 ((rd_T135 l0 x7_1).f2.f3)) ∧ w'.cell? ⟨gb166, 6, none⟩ = some (.int .i64 ((rd_T135 l0 x7_1).f2.f4)) ∧ w'.cell? ⟨gb166, 7, none⟩ = some (.int .i64 ((rd_T135 l0 x7_1).f2.f5)) ∧ w'.cell? ⟨gb166, 8, none⟩ = some (.bool ((rd_T135 l0 x7_1).f2.f6))) (ds := []) #[false, false, false, false, false, false, false, false, false, false, false, false, false, false, false, false, false, false, false, false, false, false, false, false] (by kernel_rfl) rfl rfl ⟨(blk_cell BK166.out 0).trans rfl, (blk_cell BK166.out 1).trans rfl, (blk_cell BK166.out 2).trans rfl, (blk_cell BK166.out 3).trans rfl, (blk_cell BK166.out 4).trans rfl, (blk_cell BK166.out 5).trans rfl, (blk_cell BK166.out 6).trans rfl, (blk_cell BK166.out 7).trans rfl, (blk_cell BK166.out 8).trans rfl⟩ (fun hHeld => ?_); refine with_tabW impl_RibRight.tab4 impl_RibRight.bits4 (fun HT_ HW_ => ?_)
                  generalize w29.drew = w30 at BK166 HB hHeld ⊢
                  refine pure_ (i := 0) (N := some 12) (v := ?_) (a' := ?_) #[true, false, false, false, false, false, false, false, false, false, false, false, false, false, false, false, false, false, false, false, false, false, false, false] rfl rfl (any_of HT_.out (by kernel_rfl)) (fun _ _ _ h => h) (Or.inl ⟨by rfl, ?_⟩) ?_ ?_
                  rotate_left
                  · intro w'
                    go_simp
                    with_reducible rfl
                  rotate_left
                  · simp only [Act.put, List.setIfInBounds_toArray, List.set_cons_zero, List.set_cons_succ, i64_w, i32_w]
                    rfl
                  refine take_ (i := 1) (N := some 13) (v := ?_) (a' := ?_) #[true, true, false, false, false, false, false, false, false, false, false, false, false, false, false, false, false, false, false, false, false, false, false, false] rfl rfl (take_ofW HT_.out HW_.out (by kernel_rfl)) (fun _ _ _ h => h) (Or.inl ⟨by rfl, ?_⟩) hHeld ?_ ?_
                  rotate_left
                  · rintro w' ⟨s0, s1, s2, s3, s4, s5, s6, s7, s8⟩
                    go_simp
                    with_reducible rfl
                  rotate_left
                  · simp only [Act.put, List.setIfInBounds_toArray, List.set_cons_zero, List.set_cons_succ, i64_w, i32_w]
                    rfl
                  refine one_ (i := 2) (N := some 14) #[true, true, true, false, false, false, false, false, false, false, false, false, false, false, false, false, false, false, false, false, false, false, false, false] rfl rfl (one_of HT_.out (by kernel_rfl)) (by decide) (fun K hK => ?_)
                  refine goes_ Try.func123 (by kernel_rfl) rfl #[.int .i64 ((rd_T135 l0 x7_1).f0)] (by rfl) rfl rfl (by (try simp only [List.map_toArray, List.map_cons, List.map_nil]); first | done | rfl | (simp only [List.length_drop, List.length_take]; rfl)) ?_
                  with_reducible refine (impl_isPeer.calls ((rd_T135 l0 x7_1).f0) true _ A5.out).mono ?_
                  rintro e w' ⟨rfl, ⟨nd, rfl⟩⟩
                  refine ⟨_, rfl, ?_⟩
                  refine hK.out _ _ ⟨(blk_cell BK166.out 0).trans rfl, (blk_cell BK166.out 1).trans rfl, (blk_cell BK166.out 2).trans rfl, (blk_cell BK166.out 3).trans rfl, (blk_cell BK166.out 4).trans rfl, (blk_cell BK166.out 5).trans rfl, (blk_cell BK166.out 6).trans rfl, (blk_cell BK166.out 7).trans rfl, (blk_cell BK166.out 8).trans rfl⟩ (fun hHeld => ?_)
                  clear hK K
                  refine norm_ (a' := ?_) ?_ ?_
                  rotate_left
                  · show Act.put _ (some 14) _ = _
                    simp only [Act.put, List.setIfInBounds_toArray, List.set_cons_zero, List.set_cons_succ, i64_w, i32_w]
                    rfl
                  refine pure_ (i := 3) (N := some 15) (v := ?_) (a' := ?_) #[true, true, true, true, false, false, false, false, false, false, false, false, false, false, false, false, false, false, false, false, false, false, false, false] rfl rfl (any_of HT_.out (by kernel_rfl)) (fun _ _ _ h => h) (Or.inl ⟨by rfl, ?_⟩) ?_ ?_
                  rotate_left
                  · intro w'
                    go_simp
                    with_reducible rfl
                  rotate_left
                  · simp only [Act.put, List.setIfInBounds_toArray, List.set_cons_zero, List.set_cons_succ, i64_w, i32_w]
                    rfl
                  refine pure_ (i := 4) (N := some 16) (v := ?_) (a' := ?_) #[true, true, true, true, true, false, false, false, false, false, false, false, false, false, false, false, false, false, false, false, false, false, false, false] rfl rfl (any_of HT_.out (by kernel_rfl)) (fun _ _ _ h => h) (Or.inl ⟨by rfl, ?_⟩) ?_ ?_
                  rotate_left
                  · intro w'
                    go_simp
                    with_reducible rfl
                  rotate_left
                  · simp only [Act.put, List.setIfInBounds_toArray, List.set_cons_zero, List.set_cons_succ, i64_w, i32_w]
                    rfl
                  refine pure_ (i := 5) (N := some 17) (v := ?_) (a' := ?_) #[true, true, true, true, true, true, false, false, false, false, false, false, false, false, false, false, false, false, false, false, false, false, false, false] rfl rfl (any_of HT_.out (by kernel_rfl)) (fun _ _ _ h => h) (Or.inl ⟨by rfl, ?_⟩) ?_ ?_
                  rotate_left
                  · intro w'
                    go_simp
                    with_reducible rfl
                  rotate_left
                  · simp only [Act.put, List.setIfInBounds_toArray, List.set_cons_zero, List.set_cons_succ, i64_w, i32_w]
                    rfl
                  refine take_ (i := 6) (N := some 18) (v := ?_) (a' := ?_) #[true, true, true, true, true, true, true, false, false, false, false, false, false, false, false, false, false, false, false, false, false, false, false, false] rfl rfl (take_ofW HT_.out HW_.out (by kernel_rfl)) (fun _ _ _ h => h) (Or.inl ⟨by rfl, ?_⟩) hHeld ?_ ?_
                  rotate_left
                  · rintro w' ⟨s0, s1, s2, s3, s4, s5, s6, s7, s8⟩
                    go_simp
                    with_reducible rfl
                  rotate_left
                  · simp only [Act.put, List.setIfInBounds_toArray, List.set_cons_zero, List.set_cons_succ, i64_w, i32_w]
                    rfl
                  refine one_ (i := 7) (N := some 19) #[true, true, true, true, true, true, true, true, false, false, false, false, false, false, false, false, false, false, false, false, false, false, false, false] rfl rfl (one_of HT_.out (by kernel_rfl)) (by decide) (fun K hK => ?_)
                  refine goes_ Try.func124 (by kernel_rfl) rfl #[.agg #[.int .i64 ((rd_T135 l0 x7_1).f2.f0), .int .i64 ((rd_T135 l0 x7_1).f2.f1), .int .i64 ((rd_T135 l0 x7_1).f2.f2), .int .i64 ((rd_T135 l0 x7_1).f2.f3), .int .i64 ((rd_T135 l0 x7_1).f2.f4), .int .i64 ((rd_T135 l0 x7_1).f2.f5), .bool ((rd_T135 l0 x7_1).f2.f6)]] (by rfl) rfl rfl (by (try simp only [List.map_toArray, List.map_cons, List.map_nil]); first | done | rfl | (simp only [List.length_drop, List.length_take]; rfl)) ?_
                  with_reducible refine (impl_RouteRight.calls k1 ((rd_T135 l0 x7_1).f2.f0) ((rd_T135 l0 x7_1).f2.f1) ((rd_T135 l0 x7_1).f2.f2) ((rd_T135 l0 x7_1).f2.f3) ((rd_T135 l0 x7_1).f2.f4) ((rd_T135 l0 x7_1).f2.f5) ((rd_T135 l0 x7_1).f2.f6) true _ A7.out).mono ?_
                  rintro e w31 ⟨rfl, hb⟩
                  refine ⟨_, rfl, ?_⟩
                  have n0_ := Aside0.mk (blk_below (g := gb166) (o := .cells #[.int .i64 ((rd_T135 l0 x7_1).f0), .bool ((rd_T135 l0 x7_1).f1), .int .i64 ((rd_T135 l0 x7_1).f2.f0), .int .i64 ((rd_T135 l0 x7_1).f2.f1), .int .i64 ((rd_T135 l0 x7_1).f2.f2), .int .i64 ((rd_T135 l0 x7_1).f2.f3), .int .i64 ((rd_T135 l0 x7_1).f2.f4), .int .i64 ((rd_T135 l0 x7_1).f2.f5), .bool ((rd_T135 l0 x7_1).f2.f6)] 135 (0, 0)) (by (with_reducible repeat (first | refine blk_drewN ?_ _ | refine blk_drew ?_ | refine blk_alloc ?_ _)); exact BK166.out) hb)
                  have n1_ := Aside0.mk (below_step (by repeat (first | (with_reducible first | exact HB.out | apply below_alloc | apply pw_below_drewN | apply below_drew1 | refine below_set ?_ GE166.out) | exact HB.out)) hb)
                  clear BK166
                  clear HB
                  have BK166 := n0_
                  have HB := n1_
                  clear n0_ n1_
                  (try clear hb)
                  (try clear hb2)
                  (try clear hk)
                  (try clear hi)
                  refine hK.out _ _ ⟨(blk_cell BK166.out 0).trans rfl, (blk_cell BK166.out 1).trans rfl, (blk_cell BK166.out 2).trans rfl, (blk_cell BK166.out 3).trans rfl, (blk_cell BK166.out 4).trans rfl, (blk_cell BK166.out 5).trans rfl, (blk_cell BK166.out 6).trans rfl, (blk_cell BK166.out 7).trans rfl, (blk_cell BK166.out 8).trans rfl⟩ (fun hHeld => ?_)
                  clear hK K
                  refine norm_ (a' := ?_) ?_ ?_
                  rotate_left
                  · show Act.put _ (some 19) _ = _
                    simp only [Act.put, List.setIfInBounds_toArray, List.set_cons_zero, List.set_cons_succ, i64_w, i32_w]
                    rfl
                  refine pure_ (i := 8) (N := some 20) (v := ?_) (a' := ?_) #[true, true, true, true, true, true, true, true, true, false, false, false, false, false, false, false, false, false, false, false, false, false, false, false] rfl rfl (any_of HT_.out (by kernel_rfl)) (fun _ _ _ h => h) (Or.inl ⟨by rfl, ?_⟩) ?_ ?_
                  rotate_left
                  · intro w'
                    go_simp
                    with_reducible rfl
                  rotate_left
                  · simp only [Act.put, List.setIfInBounds_toArray, List.set_cons_zero, List.set_cons_succ, i64_w, i32_w]
                    rfl
                  refine pure_ (i := 9) (N := some 21) (v := ?_) (a' := ?_) #[true, true, true, true, true, true, true, true, true, true, false, false, false, false, false, false, false, false, false, false, false, false, false, false] rfl rfl (any_of HT_.out (by kernel_rfl)) (fun _ _ _ h => h) (Or.inl ⟨by rfl, ?_⟩) ?_ ?_
                  rotate_left
                  · intro w'
                    go_simp
                    with_reducible rfl
                  rotate_left
                  · simp only [Act.put, List.setIfInBounds_toArray, List.set_cons_zero, List.set_cons_succ, i64_w, i32_w]
                    rfl
                  refine pure_ (i := 10) (N := some 22) (v := ?_) (a' := ?_) #[true, true, true, true, true, true, true, true, true, true, true, false, false, false, false, false, false, false, false, false, false, false, false, false] rfl rfl (any_of HT_.out (by kernel_rfl)) (fun _ _ _ h => h) (Or.inl ⟨by rfl, ?_⟩) ?_ ?_
                  rotate_left
                  · intro w'
                    go_simp
                    with_reducible rfl
                  rotate_left
                  · simp only [Act.put, List.setIfInBounds_toArray, List.set_cons_zero, List.set_cons_succ, i64_w, i32_w]
                    rfl
                  refine pure_ (i := 11) (N := some 23) (v := ?_) (a' := ?_) #[true, true, true, true, true, true, true, true, true, true, true, true, false, false, false, false, false, false, false, false, false, false, false, false] rfl rfl (any_of HT_.out (by kernel_rfl)) (fun _ _ _ h => h) (Or.inl ⟨by rfl, ?_⟩) ?_ ?_
                  rotate_left
                  · intro w'
                    go_simp
                    with_reducible rfl
                  rotate_left
                  · simp only [Act.put, List.setIfInBounds_toArray, List.set_cons_zero, List.set_cons_succ, i64_w, i32_w]
                    rfl
                  refine pure_ (i := 12) (N := some 24) (v := ?_) (a' := ?_) #[true, true, true, true, true, true, true, true, true, true, true, true, true, false, false, false, false, false, false, false, false, false, false, false] rfl rfl (any_of HT_.out (by kernel_rfl)) (fun _ _ _ h => h) (Or.inl ⟨by rfl, ?_⟩) ?_ ?_
                  rotate_left
                  · intro w'
                    go_simp
                    with_reducible rfl
                  rotate_left
                  · simp only [Act.put, List.setIfInBounds_toArray, List.set_cons_zero, List.set_cons_succ, i64_w, i32_w]
                    rfl
                  refine pure_ (i := 13) (N := some 25) (v := ?_) (a' := ?_) #[true, true, true, true, true, true, true, true, true, true, true, true, true, true, false, false, false, false, false, false, false, false, false, false] rfl rfl (any_of HT_.out (by kernel_rfl)) (fun _ _ _ h => h) (Or.inl ⟨by rfl, ?_⟩) ?_ ?_
                  rotate_left
                  · intro w'
                    go_simp
                    with_reducible rfl
                  rotate_left
                  · simp only [Act.put, List.setIfInBounds_toArray, List.set_cons_zero, List.set_cons_succ, i64_w, i32_w]
                    rfl
                  refine pure_ (i := 14) (N := some 26) (v := undef) (a' := ?_) #[true, true, true, true, true, true, true, true, true, true, true, true, true, true, true, false, false, false, false, false, false, false, false, false] rfl rfl (any_of HT_.out (by kernel_rfl)) (fun _ _ _ h => h) (Or.inr ⟨by rfl, rfl⟩) ?_ ?_
                  rotate_left
                  · simp only [Act.put, List.setIfInBounds_toArray, List.set_cons_zero, List.set_cons_succ, i64_w, i32_w]
                    rfl
                  refine pure_ (i := 15) (N := some 27) (v := undef) (a' := ?_) #[true, true, true, true, true, true, true, true, true, true, true, true, true, true, true, true, false, false, false, false, false, false, false, false] rfl rfl (any_of HT_.out (by kernel_rfl)) (fun _ _ _ h => h) (Or.inr ⟨by rfl, rfl⟩) ?_ ?_
                  rotate_left
                  · simp only [Act.put, List.setIfInBounds_toArray, List.set_cons_zero, List.set_cons_succ, i64_w, i32_w]
                    rfl
                  refine pure_ (i := 16) (N := some 28) (v := undef) (a' := ?_) #[true, true, true, true, true, true, true, true, true, true, true, true, true, true, true, true, true, false, false, false, false, false, false, false] rfl rfl (any_of HT_.out (by kernel_rfl)) (fun _ _ _ h => h) (Or.inr ⟨by rfl, rfl⟩) ?_ ?_
                  rotate_left
                  · simp only [Act.put, List.setIfInBounds_toArray, List.set_cons_zero, List.set_cons_succ, i64_w, i32_w]
                    rfl
                  refine pure_ (i := 17) (N := some 29) (v := undef) (a' := ?_) #[true, true, true, true, true, true, true, true, true, true, true, true, true, true, true, true, true, true, false, false, false, false, false, false] rfl rfl (any_of HT_.out (by kernel_rfl)) (fun _ _ _ h => h) (Or.inr ⟨by rfl, rfl⟩) ?_ ?_
                  rotate_left
                  · simp only [Act.put, List.setIfInBounds_toArray, List.set_cons_zero, List.set_cons_succ, i64_w, i32_w]
                    rfl
                  refine pure_ (i := 18) (N := some 30) (v := undef) (a' := ?_) #[true, true, true, true, true, true, true, true, true, true, true, true, true, true, true, true, true, true, true, false, false, false, false, false] rfl rfl (any_of HT_.out (by kernel_rfl)) (fun _ _ _ h => h) (Or.inr ⟨by rfl, rfl⟩) ?_ ?_
                  rotate_left
                  · simp only [Act.put, List.setIfInBounds_toArray, List.set_cons_zero, List.set_cons_succ, i64_w, i32_w]
                    rfl
                  refine pure_ (i := 19) (N := some 31) (v := undef) (a' := ?_) #[true, true, true, true, true, true, true, true, true, true, true, true, true, true, true, true, true, true, true, true, false, false, false, false] rfl rfl (any_of HT_.out (by kernel_rfl)) (fun _ _ _ h => h) (Or.inr ⟨by rfl, rfl⟩) ?_ ?_
                  rotate_left
                  · simp only [Act.put, List.setIfInBounds_toArray, List.set_cons_zero, List.set_cons_succ, i64_w, i32_w]
                    rfl
                  refine pure_ (i := 20) (N := some 32) (v := undef) (a' := ?_) #[true, true, true, true, true, true, true, true, true, true, true, true, true, true, true, true, true, true, true, true, true, false, false, false] rfl rfl (any_of HT_.out (by kernel_rfl)) (fun _ _ _ h => h) (Or.inr ⟨by rfl, rfl⟩) ?_ ?_
                  rotate_left
                  · simp only [Act.put, List.setIfInBounds_toArray, List.set_cons_zero, List.set_cons_succ, i64_w, i32_w]
                    rfl
                  refine pure_ (i := 21) (N := some 33) (v := undef) (a' := ?_) #[true, true, true, true, true, true, true, true, true, true, true, true, true, true, true, true, true, true, true, true, true, true, false, false] rfl rfl (any_of HT_.out (by kernel_rfl)) (fun _ _ _ h => h) (Or.inr ⟨by rfl, rfl⟩) ?_ ?_
                  rotate_left
                  · simp only [Act.put, List.setIfInBounds_toArray, List.set_cons_zero, List.set_cons_succ, i64_w, i32_w]
                    rfl
                  refine pure_ (i := 22) (N := some 34) (v := ?_) (a' := ?_) #[true, true, true, true, true, true, true, true, true, true, true, true, true, true, true, true, true, true, true, true, true, true, true, false] rfl rfl (any_of HT_.out (by kernel_rfl)) (fun _ _ _ h => h) (Or.inl ⟨by rfl, ?_⟩) ?_ ?_
                  rotate_left
                  · intro w'
                    go_simp
                    with_reducible rfl
                  rotate_left
                  · simp only [Act.put, List.setIfInBounds_toArray, List.set_cons_zero, List.set_cons_succ, i64_w, i32_w]
                    rfl
                  refine pure_ (i := 23) (N := some 35) (v := ?_) (a' := ?_) #[true, true, true, true, true, true, true, true, true, true, true, true, true, true, true, true, true, true, true, true, true, true, true, true] rfl rfl (any_of HT_.out (by kernel_rfl)) (fun _ _ _ h => h) (Or.inl ⟨by rfl, ?_⟩) ?_ ?_
                  rotate_left
                  · intro w'
                    go_simp
                    with_reducible rfl
                  rotate_left
                  · simp only [Act.put, List.setIfInBounds_toArray, List.set_cons_zero, List.set_cons_succ, i64_w, i32_w]
                    rfl
                  refine done_ (done_of HT_.out (by kernel_rfl)) ?_
                  try go_wp2
                  go_roundg k1
                  case measure => have := HK1.out; omega
                  case rel => exact ⟨(wrap64 (x7_1 + 1)), (by first | rfl | (simp; done) | (simp [*]; done)), H', ⟨by have := HK1.out; omega⟩, ⟨by repeat (first | (with_reducible first | exact HB.out | apply below_alloc | apply pw_below_drewN | apply below_drew1 | refine below_set ?_ GE166.out) | exact HB.out)⟩⟩
              · replace c8 := Bool.eq_false_iff.mpr c8
                subst c8
                have H1 : (some false) = some r := by rw [if_neg (show ¬ (false = true) by decide)] at H; exact H
                clear H
                have H := H1
                clear H1
                obtain rfl := Option.some.inj H
                have p165 : 0 ≤ (x7_1 : Int) := of_decide_eq_true (by first | (with_reducible assumption) | assumption)
                have q165 : x7_1 < (l0.length : Int) := of_decide_eq_true (by first | (with_reducible assumption) | assumption)
                obtain ⟨ad165, e165, hx165_0, hx165_1, hx165_2, hx165_3, hx165_4, hx165_5, hx165_6, hx165_7, hx165_8⟩ := at_T135 HR0.out x7_1 p165 q165
                cases e165
                replace hx165_0 := (HB.out.cell (World.block_lt_of_cell? w _ hx165_0)).trans hx165_0
                replace hx165_1 := (HB.out.cell (World.block_lt_of_cell? w _ hx165_1)).trans hx165_1
                replace hx165_2 := (HB.out.cell (World.block_lt_of_cell? w _ hx165_2)).trans hx165_2
                replace hx165_3 := (HB.out.cell (World.block_lt_of_cell? w _ hx165_3)).trans hx165_3
                replace hx165_4 := (HB.out.cell (World.block_lt_of_cell? w _ hx165_4)).trans hx165_4
                replace hx165_5 := (HB.out.cell (World.block_lt_of_cell? w _ hx165_5)).trans hx165_5
                replace hx165_6 := (HB.out.cell (World.block_lt_of_cell? w _ hx165_6)).trans hx165_6
                replace hx165_7 := (HB.out.cell (World.block_lt_of_cell? w _ hx165_7)).trans hx165_7
                replace hx165_8 := (HB.out.cell (World.block_lt_of_cell? w _ hx165_8)).trans hx165_8
                replace p165 := eq_true p165
                replace q165 := eq_true q165
                try go_wp2_with (first | ((with_reducible refine gate_dst (N := 4) rfl ?_); refine box_event ?hg (N := 4) ?hd (cs := #[.int .i64 0, .bool false, .int .i64 0, .int .i64 0, .int .i64 0, .int .i64 0, .int .i64 0, .int .i64 0, .bool false]) (t := 135) ?hr ?_; (case hd => rfl); (case hg => rfl); (case hr => first | (go_simp; done) | (go_simp; rfl)); intro gb166 hg w32 hbox hb; have n0_ := Aside0.mk (below_step (by repeat (first | (with_reducible first | exact HB.out | apply below_alloc | apply pw_below_drewN | apply below_drew1) | exact HB.out)) hb); have n1_ := Aside0.mk (hbox); have n2_ := Aside0.mk ((by rw [hg]; exact (below_size (by repeat (first | (with_reducible first | exact HB.out | apply below_alloc | apply pw_below_drewN | apply below_drew1) | exact HB.out))) : w.heap.size ≤ gb166)); have n3_ := Aside0.mk ((by rw [hg]; exact (below_size (by repeat (first | (with_reducible first | exact HB.out | apply below_alloc | apply pw_below_drewN | apply below_drew1) | exact HB.out))) : w.heap.size ≤ gb166)); clear HB; have HB := n0_; have BK166 := n1_; have GW166 := n2_; have GE166 := n3_; clear n0_ n1_ n2_ n3_; clear hb hbox hg; have hcz33_0 : w32.cell? ⟨gb166, 0, none⟩ = some (.int .i64 0) := (blk_cell BK166.out 0).trans rfl; have hcz33_1 : w32.cell? ⟨gb166, 1, none⟩ = some (.bool false) := (blk_cell BK166.out 1).trans rfl; have hcz33_2 : w32.cell? ⟨gb166, 2, none⟩ = some (.int .i64 0) := (blk_cell BK166.out 2).trans rfl; have hcz33_3 : w32.cell? ⟨gb166, 3, none⟩ = some (.int .i64 0) := (blk_cell BK166.out 3).trans rfl; have hcz33_4 : w32.cell? ⟨gb166, 4, none⟩ = some (.int .i64 0) := (blk_cell BK166.out 4).trans rfl; have hcz33_5 : w32.cell? ⟨gb166, 5, none⟩ = some (.int .i64 0) := (blk_cell BK166.out 5).trans rfl; have hcz33_6 : w32.cell? ⟨gb166, 6, none⟩ = some (.int .i64 0) := (blk_cell BK166.out 6).trans rfl; have hcz33_7 : w32.cell? ⟨gb166, 7, none⟩ = some (.int .i64 0) := (blk_cell BK166.out 7).trans rfl; have hcz33_8 : w32.cell? ⟨gb166, 8, none⟩ = some (.bool false) := (blk_cell BK166.out 8).trans rfl; have hfz33_0 := blk_frozen BK166.out 0; have hfz33_1 := blk_frozen BK166.out 1; have hfz33_2 := blk_frozen BK166.out 2; have hfz33_3 := blk_frozen BK166.out 3; have hfz33_4 := blk_frozen BK166.out 4; have hfz33_5 := blk_frozen BK166.out 5; have hfz33_6 := blk_frozen BK166.out 6; have hfz33_7 := blk_frozen BK166.out 7; have hfz33_8 := blk_frozen BK166.out 8))
                have n0_ : Aside0 ((((((((((w32.setCell ⟨gb166, 0, none⟩ (.int .i64 ((rd_T135 l0 x7_1).f0))).setCell ⟨gb166, 1, none⟩ (.bool ((rd_T135 l0 x7_1).f1))).setCell ⟨gb166, 2, none⟩ (.int .i64 ((rd_T135 l0 x7_1).f2.f0))).setCell ⟨gb166, 3, none⟩ (.int .i64 ((rd_T135 l0 x7_1).f2.f1))).setCell ⟨gb166, 4, none⟩ (.int .i64 ((rd_T135 l0 x7_1).f2.f2))).setCell ⟨gb166, 5, none⟩ (.int .i64 ((rd_T135 l0 x7_1).f2.f3))).setCell ⟨gb166, 6, none⟩ (.int .i64 ((rd_T135 l0 x7_1).f2.f4))).setCell ⟨gb166, 7, none⟩ (.int .i64 ((rd_T135 l0 x7_1).f2.f5))).setCell ⟨gb166, 8, none⟩ (.bool ((rd_T135 l0 x7_1).f2.f6))).heap[gb166]? = some (.cells #[.int .i64 ((rd_T135 l0 x7_1).f0), .bool ((rd_T135 l0 x7_1).f1), .int .i64 ((rd_T135 l0 x7_1).f2.f0), .int .i64 ((rd_T135 l0 x7_1).f2.f1), .int .i64 ((rd_T135 l0 x7_1).f2.f2), .int .i64 ((rd_T135 l0 x7_1).f2.f3), .int .i64 ((rd_T135 l0 x7_1).f2.f4), .int .i64 ((rd_T135 l0 x7_1).f2.f5), .bool ((rd_T135 l0 x7_1).f2.f6)] 135 (0, 0))) := ⟨by (with_reducible repeat (first | refine blk_drewN ?_ _ | refine blk_drew ?_ | refine blk_alloc ?_ _)); refine blk_put (cs := #[.int .i64 ((rd_T135 l0 x7_1).f0), .bool ((rd_T135 l0 x7_1).f1), .int .i64 ((rd_T135 l0 x7_1).f2.f0), .int .i64 ((rd_T135 l0 x7_1).f2.f1), .int .i64 ((rd_T135 l0 x7_1).f2.f2), .int .i64 ((rd_T135 l0 x7_1).f2.f3), .int .i64 ((rd_T135 l0 x7_1).f2.f4), .int .i64 ((rd_T135 l0 x7_1).f2.f5), .bool false]) ?_ 8 _ (by first | rfl | (subst_vars; rfl)); (with_reducible repeat (first | refine blk_drewN ?_ _ | refine blk_drew ?_ | refine blk_alloc ?_ _)); refine blk_put (cs := #[.int .i64 ((rd_T135 l0 x7_1).f0), .bool ((rd_T135 l0 x7_1).f1), .int .i64 ((rd_T135 l0 x7_1).f2.f0), .int .i64 ((rd_T135 l0 x7_1).f2.f1), .int .i64 ((rd_T135 l0 x7_1).f2.f2), .int .i64 ((rd_T135 l0 x7_1).f2.f3), .int .i64 ((rd_T135 l0 x7_1).f2.f4), .int .i64 0, .bool false]) ?_ 7 _ (by first | rfl | (subst_vars; rfl)); (with_reducible repeat (first | refine blk_drewN ?_ _ | refine blk_drew ?_ | refine blk_alloc ?_ _)); refine blk_put (cs := #[.int .i64 ((rd_T135 l0 x7_1).f0), .bool ((rd_T135 l0 x7_1).f1), .int .i64 ((rd_T135 l0 x7_1).f2.f0), .int .i64 ((rd_T135 l0 x7_1).f2.f1), .int .i64 ((rd_T135 l0 x7_1).f2.f2), .int .i64 ((rd_T135 l0 x7_1).f2.f3), .int .i64 0, .int .i64 0, .bool false]) ?_ 6 _ (by first | rfl | (subst_vars; rfl)); (with_reducible repeat (first | refine blk_drewN ?_ _ | refine blk_drew ?_ | refine blk_alloc ?_ _)); refine blk_put (cs := #[.int .i64 ((rd_T135 l0 x7_1).f0), .bool ((rd_T135 l0 x7_1).f1), .int .i64 ((rd_T135 l0 x7_1).f2.f0), .int .i64 ((rd_T135 l0 x7_1).f2.f1), .int .i64 ((rd_T135 l0 x7_1).f2.f2), .int .i64 0, .int .i64 0, .int .i64 0, .bool false]) ?_ 5 _ (by first | rfl | (subst_vars; rfl)); (with_reducible repeat (first | refine blk_drewN ?_ _ | refine blk_drew ?_ | refine blk_alloc ?_ _)); refine blk_put (cs := #[.int .i64 ((rd_T135 l0 x7_1).f0), .bool ((rd_T135 l0 x7_1).f1), .int .i64 ((rd_T135 l0 x7_1).f2.f0), .int .i64 ((rd_T135 l0 x7_1).f2.f1), .int .i64 0, .int .i64 0, .int .i64 0, .int .i64 0, .bool false]) ?_ 4 _ (by first | rfl | (subst_vars; rfl)); (with_reducible repeat (first | refine blk_drewN ?_ _ | refine blk_drew ?_ | refine blk_alloc ?_ _)); refine blk_put (cs := #[.int .i64 ((rd_T135 l0 x7_1).f0), .bool ((rd_T135 l0 x7_1).f1), .int .i64 ((rd_T135 l0 x7_1).f2.f0), .int .i64 0, .int .i64 0, .int .i64 0, .int .i64 0, .int .i64 0, .bool false]) ?_ 3 _ (by first | rfl | (subst_vars; rfl)); (with_reducible repeat (first | refine blk_drewN ?_ _ | refine blk_drew ?_ | refine blk_alloc ?_ _)); refine blk_put (cs := #[.int .i64 ((rd_T135 l0 x7_1).f0), .bool ((rd_T135 l0 x7_1).f1), .int .i64 0, .int .i64 0, .int .i64 0, .int .i64 0, .int .i64 0, .int .i64 0, .bool false]) ?_ 2 _ (by first | rfl | (subst_vars; rfl)); (with_reducible repeat (first | refine blk_drewN ?_ _ | refine blk_drew ?_ | refine blk_alloc ?_ _)); refine blk_put (cs := #[.int .i64 ((rd_T135 l0 x7_1).f0), .bool false, .int .i64 0, .int .i64 0, .int .i64 0, .int .i64 0, .int .i64 0, .int .i64 0, .bool false]) ?_ 1 _ (by first | rfl | (subst_vars; rfl)); (with_reducible repeat (first | refine blk_drewN ?_ _ | refine blk_drew ?_ | refine blk_alloc ?_ _)); refine blk_put (cs := #[.int .i64 0, .bool false, .int .i64 0, .int .i64 0, .int .i64 0, .int .i64 0, .int .i64 0, .int .i64 0, .bool false]) ?_ 0 _ (by first | rfl | (subst_vars; rfl)); (with_reducible repeat (first | refine blk_drewN ?_ _ | refine blk_drew ?_ | refine blk_alloc ?_ _)); exact BK166.out⟩
                have n1_ : Aside0 (Below w.heap.size w (((((((((w32.setCell ⟨gb166, 0, none⟩ (.int .i64 ((rd_T135 l0 x7_1).f0))).setCell ⟨gb166, 1, none⟩ (.bool ((rd_T135 l0 x7_1).f1))).setCell ⟨gb166, 2, none⟩ (.int .i64 ((rd_T135 l0 x7_1).f2.f0))).setCell ⟨gb166, 3, none⟩ (.int .i64 ((rd_T135 l0 x7_1).f2.f1))).setCell ⟨gb166, 4, none⟩ (.int .i64 ((rd_T135 l0 x7_1).f2.f2))).setCell ⟨gb166, 5, none⟩ (.int .i64 ((rd_T135 l0 x7_1).f2.f3))).setCell ⟨gb166, 6, none⟩ (.int .i64 ((rd_T135 l0 x7_1).f2.f4))).setCell ⟨gb166, 7, none⟩ (.int .i64 ((rd_T135 l0 x7_1).f2.f5))).setCell ⟨gb166, 8, none⟩ (.bool ((rd_T135 l0 x7_1).f2.f6)))) := ⟨by repeat (first | (with_reducible first | exact HB.out | apply below_alloc | apply pw_below_drewN | apply below_drew1 | refine below_set ?_ GE166.out) | exact HB.out)⟩
                (try clear BK166)
                (try clear HB)
                generalize (((((((((w32.setCell ⟨gb166, 0, none⟩ (.int .i64 ((rd_T135 l0 x7_1).f0))).setCell ⟨gb166, 1, none⟩ (.bool ((rd_T135 l0 x7_1).f1))).setCell ⟨gb166, 2, none⟩ (.int .i64 ((rd_T135 l0 x7_1).f2.f0))).setCell ⟨gb166, 3, none⟩ (.int .i64 ((rd_T135 l0 x7_1).f2.f1))).setCell ⟨gb166, 4, none⟩ (.int .i64 ((rd_T135 l0 x7_1).f2.f2))).setCell ⟨gb166, 5, none⟩ (.int .i64 ((rd_T135 l0 x7_1).f2.f3))).setCell ⟨gb166, 6, none⟩ (.int .i64 ((rd_T135 l0 x7_1).f2.f4))).setCell ⟨gb166, 7, none⟩ (.int .i64 ((rd_T135 l0 x7_1).f2.f5))).setCell ⟨gb166, 8, none⟩ (.bool ((rd_T135 l0 x7_1).f2.f6))) = w34 at n0_ n1_ ⊢
                have BK166 := n0_
                have HB := n1_
                clear n0_ n1_
                have n0_ := Aside0.mk (blk_drew BK166.out)
                have n1_ := Aside0.mk (below_drew1 HB.out)
                clear BK166
                clear HB
                have BK166 := n0_
                have HB := n1_
                clear n0_ n1_
                refine start_ (n := 24) (S := fun w' => w'.cell? ⟨gb166, 0, none⟩ = some (.int .i64 ((rd_T135 l0 x7_1).f0)) ∧ w'.cell? ⟨gb166, 1, none⟩ = some (.bool ((rd_T135 l0 x7_1).f1)) ∧ w'.cell? ⟨gb166, 2, none⟩ = some (.int .i64 ((rd_T135 l0 x7_1).f2.f0)) ∧ w'.cell? ⟨gb166, 3, none⟩ = some (.int .i64 ((rd_T135 l0 x7_1).f2.f1)) ∧ w'.cell? ⟨gb166, 4, none⟩ = some (.int .i64 ((rd_T135 l0 x7_1).f2.f2)) ∧ w'.cell? ⟨gb166, 5, none⟩ = some (.int .i64 ((rd_T135 l0 x7_1).f2.f3)) ∧ w'.cell? ⟨gb166, 6, none⟩ = some (.int .i64 ((rd_T135 l0 x7_1).f2.f4)) ∧ w'.cell? ⟨gb166, 7, none⟩ = some (.int .i64 ((rd_T135 l0 x7_1).f2.f5)) ∧ w'.cell? ⟨gb166, 8, none⟩ = some (.bool ((rd_T135 l0 x7_1).f2.f6))) (ds := []) #[false, false, false, false, false, false, false, false, false, false, false, false, false, false, false, false, false, false, false, false, false, false, false, false] (by kernel_rfl) rfl rfl ⟨(blk_cell BK166.out 0).trans rfl, (blk_cell BK166.out 1).trans rfl, (blk_cell BK166.out 2).trans rfl, (blk_cell BK166.out 3).trans rfl, (blk_cell BK166.out 4).trans rfl, (blk_cell BK166.out 5).trans rfl, (blk_cell BK166.out 6).trans rfl, (blk_cell BK166.out 7).trans rfl, (blk_cell BK166.out 8).trans rfl⟩ (fun hHeld => ?_); refine with_tabW impl_RibRight.tab4 impl_RibRight.bits4 (fun HT_ HW_ => ?_)
                generalize w34.drew = w35 at BK166 HB hHeld ⊢
                refine pure_ (i := 0) (N := some 12) (v := ?_) (a' := ?_) #[true, false, false, false, false, false, false, false, false, false, false, false, false, false, false, false, false, false, false, false, false, false, false, false] rfl rfl (any_of HT_.out (by kernel_rfl)) (fun _ _ _ h => h) (Or.inl ⟨by rfl, ?_⟩) ?_ ?_
                rotate_left
                · intro w'
                  go_simp
                  with_reducible rfl
                rotate_left
                · simp only [Act.put, List.setIfInBounds_toArray, List.set_cons_zero, List.set_cons_succ, i64_w, i32_w]
                  rfl
                refine take_ (i := 1) (N := some 13) (v := ?_) (a' := ?_) #[true, true, false, false, false, false, false, false, false, false, false, false, false, false, false, false, false, false, false, false, false, false, false, false] rfl rfl (take_ofW HT_.out HW_.out (by kernel_rfl)) (fun _ _ _ h => h) (Or.inl ⟨by rfl, ?_⟩) hHeld ?_ ?_
                rotate_left
                · rintro w' ⟨s0, s1, s2, s3, s4, s5, s6, s7, s8⟩
                  go_simp
                  with_reducible rfl
                rotate_left
                · simp only [Act.put, List.setIfInBounds_toArray, List.set_cons_zero, List.set_cons_succ, i64_w, i32_w]
                  rfl
                refine one_ (i := 2) (N := some 14) #[true, true, true, false, false, false, false, false, false, false, false, false, false, false, false, false, false, false, false, false, false, false, false, false] rfl rfl (one_of HT_.out (by kernel_rfl)) (by decide) (fun K hK => ?_)
                refine goes_ Try.func123 (by kernel_rfl) rfl #[.int .i64 ((rd_T135 l0 x7_1).f0)] (by rfl) rfl rfl (by (try simp only [List.map_toArray, List.map_cons, List.map_nil]); first | done | rfl | (simp only [List.length_drop, List.length_take]; rfl)) ?_
                with_reducible refine (impl_isPeer.calls ((rd_T135 l0 x7_1).f0) true _ A5.out).mono ?_
                rintro e w' ⟨rfl, ⟨nd, rfl⟩⟩
                refine ⟨_, rfl, ?_⟩
                refine hK.out _ _ ⟨(blk_cell BK166.out 0).trans rfl, (blk_cell BK166.out 1).trans rfl, (blk_cell BK166.out 2).trans rfl, (blk_cell BK166.out 3).trans rfl, (blk_cell BK166.out 4).trans rfl, (blk_cell BK166.out 5).trans rfl, (blk_cell BK166.out 6).trans rfl, (blk_cell BK166.out 7).trans rfl, (blk_cell BK166.out 8).trans rfl⟩ (fun hHeld => ?_)
                clear hK K
                refine norm_ (a' := ?_) ?_ ?_
                rotate_left
                · show Act.put _ (some 14) _ = _
                  simp only [Act.put, List.setIfInBounds_toArray, List.set_cons_zero, List.set_cons_succ, i64_w, i32_w]
                  rfl
                refine pure_ (i := 3) (N := some 15) (v := ?_) (a' := ?_) #[true, true, true, true, false, false, false, false, false, false, false, false, false, false, false, false, false, false, false, false, false, false, false, false] rfl rfl (any_of HT_.out (by kernel_rfl)) (fun _ _ _ h => h) (Or.inl ⟨by rfl, ?_⟩) ?_ ?_
                rotate_left
                · intro w'
                  go_simp
                  with_reducible rfl
                rotate_left
                · simp only [Act.put, List.setIfInBounds_toArray, List.set_cons_zero, List.set_cons_succ, i64_w, i32_w]
                  rfl
                refine pure_ (i := 4) (N := some 16) (v := ?_) (a' := ?_) #[true, true, true, true, true, false, false, false, false, false, false, false, false, false, false, false, false, false, false, false, false, false, false, false] rfl rfl (any_of HT_.out (by kernel_rfl)) (fun _ _ _ h => h) (Or.inl ⟨by rfl, ?_⟩) ?_ ?_
                rotate_left
                · intro w'
                  go_simp
                  with_reducible rfl
                rotate_left
                · simp only [Act.put, List.setIfInBounds_toArray, List.set_cons_zero, List.set_cons_succ, i64_w, i32_w]
                  rfl
                refine pure_ (i := 5) (N := some 17) (v := ?_) (a' := ?_) #[true, true, true, true, true, true, false, false, false, false, false, false, false, false, false, false, false, false, false, false, false, false, false, false] rfl rfl (any_of HT_.out (by kernel_rfl)) (fun _ _ _ h => h) (Or.inl ⟨by rfl, ?_⟩) ?_ ?_
                rotate_left
                · intro w'
                  go_simp
                  with_reducible rfl
                rotate_left
                · simp only [Act.put, List.setIfInBounds_toArray, List.set_cons_zero, List.set_cons_succ, i64_w, i32_w]
                  rfl
                refine take_ (i := 6) (N := some 18) (v := ?_) (a' := ?_) #[true, true, true, true, true, true, true, false, false, false, false, false, false, false, false, false, false, false, false, false, false, false, false, false] rfl rfl (take_ofW HT_.out HW_.out (by kernel_rfl)) (fun _ _ _ h => h) (Or.inl ⟨by rfl, ?_⟩) hHeld ?_ ?_
                rotate_left
                · rintro w' ⟨s0, s1, s2, s3, s4, s5, s6, s7, s8⟩
                  go_simp
                  with_reducible rfl
                rotate_left
                · simp only [Act.put, List.setIfInBounds_toArray, List.set_cons_zero, List.set_cons_succ, i64_w, i32_w]
                  rfl
                refine one_ (i := 7) (N := some 19) #[true, true, true, true, true, true, true, true, false, false, false, false, false, false, false, false, false, false, false, false, false, false, false, false] rfl rfl (one_of HT_.out (by kernel_rfl)) (by decide) (fun K hK => ?_)
                refine goes_ Try.func124 (by kernel_rfl) rfl #[.agg #[.int .i64 ((rd_T135 l0 x7_1).f2.f0), .int .i64 ((rd_T135 l0 x7_1).f2.f1), .int .i64 ((rd_T135 l0 x7_1).f2.f2), .int .i64 ((rd_T135 l0 x7_1).f2.f3), .int .i64 ((rd_T135 l0 x7_1).f2.f4), .int .i64 ((rd_T135 l0 x7_1).f2.f5), .bool ((rd_T135 l0 x7_1).f2.f6)]] (by rfl) rfl rfl (by (try simp only [List.map_toArray, List.map_cons, List.map_nil]); first | done | rfl | (simp only [List.length_drop, List.length_take]; rfl)) ?_
                with_reducible refine (impl_RouteRight.calls k1 ((rd_T135 l0 x7_1).f2.f0) ((rd_T135 l0 x7_1).f2.f1) ((rd_T135 l0 x7_1).f2.f2) ((rd_T135 l0 x7_1).f2.f3) ((rd_T135 l0 x7_1).f2.f4) ((rd_T135 l0 x7_1).f2.f5) ((rd_T135 l0 x7_1).f2.f6) false _ A7.out).mono ?_
                rintro e w36 ⟨rfl, hb⟩
                refine ⟨_, rfl, ?_⟩
                have n0_ := Aside0.mk (blk_below (g := gb166) (o := .cells #[.int .i64 ((rd_T135 l0 x7_1).f0), .bool ((rd_T135 l0 x7_1).f1), .int .i64 ((rd_T135 l0 x7_1).f2.f0), .int .i64 ((rd_T135 l0 x7_1).f2.f1), .int .i64 ((rd_T135 l0 x7_1).f2.f2), .int .i64 ((rd_T135 l0 x7_1).f2.f3), .int .i64 ((rd_T135 l0 x7_1).f2.f4), .int .i64 ((rd_T135 l0 x7_1).f2.f5), .bool ((rd_T135 l0 x7_1).f2.f6)] 135 (0, 0)) (by (with_reducible repeat (first | refine blk_drewN ?_ _ | refine blk_drew ?_ | refine blk_alloc ?_ _)); exact BK166.out) hb)
                have n1_ := Aside0.mk (below_step (by repeat (first | (with_reducible first | exact HB.out | apply below_alloc | apply pw_below_drewN | apply below_drew1 | refine below_set ?_ GE166.out) | exact HB.out)) hb)
                clear BK166
                clear HB
                have BK166 := n0_
                have HB := n1_
                clear n0_ n1_
                (try clear hb)
                (try clear hb2)
                (try clear hk)
                (try clear hi)
                refine hK.out _ _ ⟨(blk_cell BK166.out 0).trans rfl, (blk_cell BK166.out 1).trans rfl, (blk_cell BK166.out 2).trans rfl, (blk_cell BK166.out 3).trans rfl, (blk_cell BK166.out 4).trans rfl, (blk_cell BK166.out 5).trans rfl, (blk_cell BK166.out 6).trans rfl, (blk_cell BK166.out 7).trans rfl, (blk_cell BK166.out 8).trans rfl⟩ (fun hHeld => ?_)
                clear hK K
                refine norm_ (a' := ?_) ?_ ?_
                rotate_left
                · show Act.put _ (some 19) _ = _
                  simp only [Act.put, List.setIfInBounds_toArray, List.set_cons_zero, List.set_cons_succ, i64_w, i32_w]
                  rfl
                refine pure_ (i := 8) (N := some 20) (v := ?_) (a' := ?_) #[true, true, true, true, true, true, true, true, true, false, false, false, false, false, false, false, false, false, false, false, false, false, false, false] rfl rfl (any_of HT_.out (by kernel_rfl)) (fun _ _ _ h => h) (Or.inl ⟨by rfl, ?_⟩) ?_ ?_
                rotate_left
                · intro w'
                  go_simp
                  with_reducible rfl
                rotate_left
                · simp only [Act.put, List.setIfInBounds_toArray, List.set_cons_zero, List.set_cons_succ, i64_w, i32_w]
                  rfl
                refine pure_ (i := 9) (N := some 21) (v := ?_) (a' := ?_) #[true, true, true, true, true, true, true, true, true, true, false, false, false, false, false, false, false, false, false, false, false, false, false, false] rfl rfl (any_of HT_.out (by kernel_rfl)) (fun _ _ _ h => h) (Or.inl ⟨by rfl, ?_⟩) ?_ ?_
                rotate_left
                · intro w'
                  go_simp
                  with_reducible rfl
                rotate_left
                · simp only [Act.put, List.setIfInBounds_toArray, List.set_cons_zero, List.set_cons_succ, i64_w, i32_w]
                  rfl
                refine pure_ (i := 10) (N := some 22) (v := ?_) (a' := ?_) #[true, true, true, true, true, true, true, true, true, true, true, false, false, false, false, false, false, false, false, false, false, false, false, false] rfl rfl (any_of HT_.out (by kernel_rfl)) (fun _ _ _ h => h) (Or.inl ⟨by rfl, ?_⟩) ?_ ?_
                rotate_left
                · intro w'
                  go_simp
                  with_reducible rfl
                rotate_left
                · simp only [Act.put, List.setIfInBounds_toArray, List.set_cons_zero, List.set_cons_succ, i64_w, i32_w]
                  rfl
                refine pure_ (i := 11) (N := some 23) (v := undef) (a' := ?_) #[true, true, true, true, true, true, true, true, true, true, true, true, false, false, false, false, false, false, false, false, false, false, false, false] rfl rfl (any_of HT_.out (by kernel_rfl)) (fun _ _ _ h => h) (Or.inr ⟨by rfl, rfl⟩) ?_ ?_
                rotate_left
                · simp only [Act.put, List.setIfInBounds_toArray, List.set_cons_zero, List.set_cons_succ, i64_w, i32_w]
                  rfl
                refine pure_ (i := 12) (N := some 24) (v := undef) (a' := ?_) #[true, true, true, true, true, true, true, true, true, true, true, true, true, false, false, false, false, false, false, false, false, false, false, false] rfl rfl (any_of HT_.out (by kernel_rfl)) (fun _ _ _ h => h) (Or.inr ⟨by rfl, rfl⟩) ?_ ?_
                rotate_left
                · simp only [Act.put, List.setIfInBounds_toArray, List.set_cons_zero, List.set_cons_succ, i64_w, i32_w]
                  rfl
                refine pure_ (i := 13) (N := some 25) (v := undef) (a' := ?_) #[true, true, true, true, true, true, true, true, true, true, true, true, true, true, false, false, false, false, false, false, false, false, false, false] rfl rfl (any_of HT_.out (by kernel_rfl)) (fun _ _ _ h => h) (Or.inr ⟨by rfl, rfl⟩) ?_ ?_
                rotate_left
                · simp only [Act.put, List.setIfInBounds_toArray, List.set_cons_zero, List.set_cons_succ, i64_w, i32_w]
                  rfl
                refine pure_ (i := 14) (N := some 26) (v := undef) (a' := ?_) #[true, true, true, true, true, true, true, true, true, true, true, true, true, true, true, false, false, false, false, false, false, false, false, false] rfl rfl (any_of HT_.out (by kernel_rfl)) (fun _ _ _ h => h) (Or.inr ⟨by rfl, rfl⟩) ?_ ?_
                rotate_left
                · simp only [Act.put, List.setIfInBounds_toArray, List.set_cons_zero, List.set_cons_succ, i64_w, i32_w]
                  rfl
                refine pure_ (i := 15) (N := some 27) (v := undef) (a' := ?_) #[true, true, true, true, true, true, true, true, true, true, true, true, true, true, true, true, false, false, false, false, false, false, false, false] rfl rfl (any_of HT_.out (by kernel_rfl)) (fun _ _ _ h => h) (Or.inr ⟨by rfl, rfl⟩) ?_ ?_
                rotate_left
                · simp only [Act.put, List.setIfInBounds_toArray, List.set_cons_zero, List.set_cons_succ, i64_w, i32_w]
                  rfl
                refine pure_ (i := 16) (N := some 28) (v := undef) (a' := ?_) #[true, true, true, true, true, true, true, true, true, true, true, true, true, true, true, true, true, false, false, false, false, false, false, false] rfl rfl (any_of HT_.out (by kernel_rfl)) (fun _ _ _ h => h) (Or.inr ⟨by rfl, rfl⟩) ?_ ?_
                rotate_left
                · simp only [Act.put, List.setIfInBounds_toArray, List.set_cons_zero, List.set_cons_succ, i64_w, i32_w]
                  rfl
                refine pure_ (i := 17) (N := some 29) (v := undef) (a' := ?_) #[true, true, true, true, true, true, true, true, true, true, true, true, true, true, true, true, true, true, false, false, false, false, false, false] rfl rfl (any_of HT_.out (by kernel_rfl)) (fun _ _ _ h => h) (Or.inr ⟨by rfl, rfl⟩) ?_ ?_
                rotate_left
                · simp only [Act.put, List.setIfInBounds_toArray, List.set_cons_zero, List.set_cons_succ, i64_w, i32_w]
                  rfl
                refine pure_ (i := 18) (N := some 30) (v := undef) (a' := ?_) #[true, true, true, true, true, true, true, true, true, true, true, true, true, true, true, true, true, true, true, false, false, false, false, false] rfl rfl (any_of HT_.out (by kernel_rfl)) (fun _ _ _ h => h) (Or.inr ⟨by rfl, rfl⟩) ?_ ?_
                rotate_left
                · simp only [Act.put, List.setIfInBounds_toArray, List.set_cons_zero, List.set_cons_succ, i64_w, i32_w]
                  rfl
                refine pure_ (i := 19) (N := some 31) (v := undef) (a' := ?_) #[true, true, true, true, true, true, true, true, true, true, true, true, true, true, true, true, true, true, true, true, false, false, false, false] rfl rfl (any_of HT_.out (by kernel_rfl)) (fun _ _ _ h => h) (Or.inr ⟨by rfl, rfl⟩) ?_ ?_
                rotate_left
                · simp only [Act.put, List.setIfInBounds_toArray, List.set_cons_zero, List.set_cons_succ, i64_w, i32_w]
                  rfl
                refine pure_ (i := 20) (N := some 32) (v := undef) (a' := ?_) #[true, true, true, true, true, true, true, true, true, true, true, true, true, true, true, true, true, true, true, true, true, false, false, false] rfl rfl (any_of HT_.out (by kernel_rfl)) (fun _ _ _ h => h) (Or.inr ⟨by rfl, rfl⟩) ?_ ?_
                rotate_left
                · simp only [Act.put, List.setIfInBounds_toArray, List.set_cons_zero, List.set_cons_succ, i64_w, i32_w]
                  rfl
                refine pure_ (i := 21) (N := some 33) (v := undef) (a' := ?_) #[true, true, true, true, true, true, true, true, true, true, true, true, true, true, true, true, true, true, true, true, true, true, false, false] rfl rfl (any_of HT_.out (by kernel_rfl)) (fun _ _ _ h => h) (Or.inr ⟨by rfl, rfl⟩) ?_ ?_
                rotate_left
                · simp only [Act.put, List.setIfInBounds_toArray, List.set_cons_zero, List.set_cons_succ, i64_w, i32_w]
                  rfl
                refine pure_ (i := 22) (N := some 34) (v := undef) (a' := ?_) #[true, true, true, true, true, true, true, true, true, true, true, true, true, true, true, true, true, true, true, true, true, true, true, false] rfl rfl (any_of HT_.out (by kernel_rfl)) (fun _ _ _ h => h) (Or.inr ⟨by rfl, rfl⟩) ?_ ?_
                rotate_left
                · simp only [Act.put, List.setIfInBounds_toArray, List.set_cons_zero, List.set_cons_succ, i64_w, i32_w]
                  rfl
                refine pure_ (i := 23) (N := some 35) (v := ?_) (a' := ?_) #[true, true, true, true, true, true, true, true, true, true, true, true, true, true, true, true, true, true, true, true, true, true, true, true] rfl rfl (any_of HT_.out (by kernel_rfl)) (fun _ _ _ h => h) (Or.inl ⟨by rfl, ?_⟩) ?_ ?_
                rotate_left
                · intro w'
                  go_simp
                  with_reducible rfl
                rotate_left
                · simp only [Act.put, List.setIfInBounds_toArray, List.set_cons_zero, List.set_cons_succ, i64_w, i32_w]
                  rfl
                refine done_ (done_of HT_.out (by kernel_rfl)) ?_
                try go_wp2
                go_ret
                exact ⟨by first | rfl | (simp [errW_none, errW_some] <;> rfl) | (simp [*, errW_none, errW_some] <;> rfl), by repeat (first | (with_reducible first | exact HB.out | apply below_alloc | apply pw_below_drewN | apply below_drew1 | refine below_set ?_ GE166.out) | exact HB.out)⟩
            · replace c6 := Bool.eq_false_iff.mpr c6
              subst c6
              have H1 : (some false) = some r := by rw [if_neg (show ¬ (false = true) by decide)] at H; exact H
              clear H
              have H := H1
              clear H1
              obtain rfl := Option.some.inj H
              have p165 : 0 ≤ (x7_1 : Int) := of_decide_eq_true (by first | (with_reducible assumption) | assumption)
              have q165 : x7_1 < (l0.length : Int) := of_decide_eq_true (by first | (with_reducible assumption) | assumption)
              obtain ⟨ad165, e165, hx165_0, hx165_1, hx165_2, hx165_3, hx165_4, hx165_5, hx165_6, hx165_7, hx165_8⟩ := at_T135 HR0.out x7_1 p165 q165
              cases e165
              replace hx165_0 := (HB.out.cell (World.block_lt_of_cell? w _ hx165_0)).trans hx165_0
              replace hx165_1 := (HB.out.cell (World.block_lt_of_cell? w _ hx165_1)).trans hx165_1
              replace hx165_2 := (HB.out.cell (World.block_lt_of_cell? w _ hx165_2)).trans hx165_2
              replace hx165_3 := (HB.out.cell (World.block_lt_of_cell? w _ hx165_3)).trans hx165_3
              replace hx165_4 := (HB.out.cell (World.block_lt_of_cell? w _ hx165_4)).trans hx165_4
              replace hx165_5 := (HB.out.cell (World.block_lt_of_cell? w _ hx165_5)).trans hx165_5
              replace hx165_6 := (HB.out.cell (World.block_lt_of_cell? w _ hx165_6)).trans hx165_6
              replace hx165_7 := (HB.out.cell (World.block_lt_of_cell? w _ hx165_7)).trans hx165_7
              replace hx165_8 := (HB.out.cell (World.block_lt_of_cell? w _ hx165_8)).trans hx165_8
              replace p165 := eq_true p165
              replace q165 := eq_true q165
              try go_wp2_with (first | ((with_reducible refine gate_dst (N := 4) rfl ?_); refine box_event ?hg (N := 4) ?hd (cs := #[.int .i64 0, .bool false, .int .i64 0, .int .i64 0, .int .i64 0, .int .i64 0, .int .i64 0, .int .i64 0, .bool false]) (t := 135) ?hr ?_; (case hd => rfl); (case hg => rfl); (case hr => first | (go_simp; done) | (go_simp; rfl)); intro gb166 hg w37 hbox hb; have n0_ := Aside0.mk (below_step (by repeat (first | (with_reducible first | exact HB.out | apply below_alloc | apply pw_below_drewN | apply below_drew1) | exact HB.out)) hb); have n1_ := Aside0.mk (hbox); have n2_ := Aside0.mk ((by rw [hg]; exact (below_size (by repeat (first | (with_reducible first | exact HB.out | apply below_alloc | apply pw_below_drewN | apply below_drew1) | exact HB.out))) : w.heap.size ≤ gb166)); have n3_ := Aside0.mk ((by rw [hg]; exact (below_size (by repeat (first | (with_reducible first | exact HB.out | apply below_alloc | apply pw_below_drewN | apply below_drew1) | exact HB.out))) : w.heap.size ≤ gb166)); clear HB; have HB := n0_; have BK166 := n1_; have GW166 := n2_; have GE166 := n3_; clear n0_ n1_ n2_ n3_; clear hb hbox hg; have hcz38_0 : w37.cell? ⟨gb166, 0, none⟩ = some (.int .i64 0) := (blk_cell BK166.out 0).trans rfl; have hcz38_1 : w37.cell? ⟨gb166, 1, none⟩ = some (.bool false) := (blk_cell BK166.out 1).trans rfl; have hcz38_2 : w37.cell? ⟨gb166, 2, none⟩ = some (.int .i64 0) := (blk_cell BK166.out 2).trans rfl; have hcz38_3 : w37.cell? ⟨gb166, 3, none⟩ = some (.int .i64 0) := (blk_cell BK166.out 3).trans rfl; have hcz38_4 : w37.cell? ⟨gb166, 4, none⟩ = some (.int .i64 0) := (blk_cell BK166.out 4).trans rfl; have hcz38_5 : w37.cell? ⟨gb166, 5, none⟩ = some (.int .i64 0) := (blk_cell BK166.out 5).trans rfl; have hcz38_6 : w37.cell? ⟨gb166, 6, none⟩ = some (.int .i64 0) := (blk_cell BK166.out 6).trans rfl; have hcz38_7 : w37.cell? ⟨gb166, 7, none⟩ = some (.int .i64 0) := (blk_cell BK166.out 7).trans rfl; have hcz38_8 : w37.cell? ⟨gb166, 8, none⟩ = some (.bool false) := (blk_cell BK166.out 8).trans rfl; have hfz38_0 := blk_frozen BK166.out 0; have hfz38_1 := blk_frozen BK166.out 1; have hfz38_2 := blk_frozen BK166.out 2; have hfz38_3 := blk_frozen BK166.out 3; have hfz38_4 := blk_frozen BK166.out 4; have hfz38_5 := blk_frozen BK166.out 5; have hfz38_6 := blk_frozen BK166.out 6; have hfz38_7 := blk_frozen BK166.out 7; have hfz38_8 := blk_frozen BK166.out 8))
              have n0_ : Aside0 ((((((((((w37.setCell ⟨gb166, 0, none⟩ (.int .i64 ((rd_T135 l0 x7_1).f0))).setCell ⟨gb166, 1, none⟩ (.bool ((rd_T135 l0 x7_1).f1))).setCell ⟨gb166, 2, none⟩ (.int .i64 ((rd_T135 l0 x7_1).f2.f0))).setCell ⟨gb166, 3, none⟩ (.int .i64 ((rd_T135 l0 x7_1).f2.f1))).setCell ⟨gb166, 4, none⟩ (.int .i64 ((rd_T135 l0 x7_1).f2.f2))).setCell ⟨gb166, 5, none⟩ (.int .i64 ((rd_T135 l0 x7_1).f2.f3))).setCell ⟨gb166, 6, none⟩ (.int .i64 ((rd_T135 l0 x7_1).f2.f4))).setCell ⟨gb166, 7, none⟩ (.int .i64 ((rd_T135 l0 x7_1).f2.f5))).setCell ⟨gb166, 8, none⟩ (.bool ((rd_T135 l0 x7_1).f2.f6))).heap[gb166]? = some (.cells #[.int .i64 ((rd_T135 l0 x7_1).f0), .bool ((rd_T135 l0 x7_1).f1), .int .i64 ((rd_T135 l0 x7_1).f2.f0), .int .i64 ((rd_T135 l0 x7_1).f2.f1), .int .i64 ((rd_T135 l0 x7_1).f2.f2), .int .i64 ((rd_T135 l0 x7_1).f2.f3), .int .i64 ((rd_T135 l0 x7_1).f2.f4), .int .i64 ((rd_T135 l0 x7_1).f2.f5), .bool ((rd_T135 l0 x7_1).f2.f6)] 135 (0, 0))) := ⟨by (with_reducible repeat (first | refine blk_drewN ?_ _ | refine blk_drew ?_ | refine blk_alloc ?_ _)); refine blk_put (cs := #[.int .i64 ((rd_T135 l0 x7_1).f0), .bool ((rd_T135 l0 x7_1).f1), .int .i64 ((rd_T135 l0 x7_1).f2.f0), .int .i64 ((rd_T135 l0 x7_1).f2.f1), .int .i64 ((rd_T135 l0 x7_1).f2.f2), .int .i64 ((rd_T135 l0 x7_1).f2.f3), .int .i64 ((rd_T135 l0 x7_1).f2.f4), .int .i64 ((rd_T135 l0 x7_1).f2.f5), .bool false]) ?_ 8 _ (by first | rfl | (subst_vars; rfl)); (with_reducible repeat (first | refine blk_drewN ?_ _ | refine blk_drew ?_ | refine blk_alloc ?_ _)); refine blk_put (cs := #[.int .i64 ((rd_T135 l0 x7_1).f0), .bool ((rd_T135 l0 x7_1).f1), .int .i64 ((rd_T135 l0 x7_1).f2.f0), .int .i64 ((rd_T135 l0 x7_1).f2.f1), .int .i64 ((rd_T135 l0 x7_1).f2.f2), .int .i64 ((rd_T135 l0 x7_1).f2.f3), .int .i64 ((rd_T135 l0 x7_1).f2.f4), .int .i64 0, .bool false]) ?_ 7 _ (by first | rfl | (subst_vars; rfl)); (with_reducible repeat (first | refine blk_drewN ?_ _ | refine blk_drew ?_ | refine blk_alloc ?_ _)); refine blk_put (cs := #[.int .i64 ((rd_T135 l0 x7_1).f0), .bool ((rd_T135 l0 x7_1).f1), .int .i64 ((rd_T135 l0 x7_1).f2.f0), .int .i64 ((rd_T135 l0 x7_1).f2.f1), .int .i64 ((rd_T135 l0 x7_1).f2.f2), .int .i64 ((rd_T135 l0 x7_1).f2.f3), .int .i64 0, .int .i64 0, .bool false]) ?_ 6 _ (by first | rfl | (subst_vars; rfl)); (with_reducible repeat (first | refine blk_drewN ?_ _ | refine blk_drew ?_ | refine blk_alloc ?_ _)); refine blk_put (cs := #[.int .i64 ((rd_T135 l0 x7_1).f0), .bool ((rd_T135 l0 x7_1).f1), .int .i64 ((rd_T135 l0 x7_1).f2.f0), .int .i64 ((rd_T135 l0 x7_1).f2.f1), .int .i64 ((rd_T135 l0 x7_1).f2.f2), .int .i64 0, .int .i64 0, .int .i64 0, .bool false]) ?_ 5 _ (by first | rfl | (subst_vars; rfl)); (with_reducible repeat (first | refine blk_drewN ?_ _ | refine blk_drew ?_ | refine blk_alloc ?_ _)); refine blk_put (cs := #[.int .i64 ((rd_T135 l0 x7_1).f0), .bool ((rd_T135 l0 x7_1).f1), .int .i64 ((rd_T135 l0 x7_1).f2.f0), .int .i64 ((rd_T135 l0 x7_1).f2.f1), .int .i64 0, .int .i64 0, .int .i64 0, .int .i64 0, .bool false]) ?_ 4 _ (by first | rfl | (subst_vars; rfl)); (with_reducible repeat (first | refine blk_drewN ?_ _ | refine blk_drew ?_ | refine blk_alloc ?_ _)); refine blk_put (cs := #[.int .i64 ((rd_T135 l0 x7_1).f0), .bool ((rd_T135 l0 x7_1).f1), .int .i64 ((rd_T135 l0 x7_1).f2.f0), .int .i64 0, .int .i64 0, .int .i64 0, .int .i64 0, .int .i64 0, .bool false]) ?_ 3 _ (by first | rfl | (subst_vars; rfl)); (with_reducible repeat (first | refine blk_drewN ?_ _ | refine blk_drew ?_ | refine blk_alloc ?_ _)); refine blk_put (cs := #[.int .i64 ((rd_T135 l0 x7_1).f0), .bool ((rd_T135 l0 x7_1).f1), .int .i64 0, .int .i64 0, .int .i64 0, .int .i64 0, .int .i64 0, .int .i64 0, .bool false]) ?_ 2 _ (by first | rfl | (subst_vars; rfl)); (with_reducible repeat (first | refine blk_drewN ?_ _ | refine blk_drew ?_ | refine blk_alloc ?_ _)); refine blk_put (cs := #[.int .i64 ((rd_T135 l0 x7_1).f0), .bool false, .int .i64 0, .int .i64 0, .int .i64 0, .int .i64 0, .int .i64 0, .int .i64 0, .bool false]) ?_ 1 _ (by first | rfl | (subst_vars; rfl)); (with_reducible repeat (first | refine blk_drewN ?_ _ | refine blk_drew ?_ | refine blk_alloc ?_ _)); refine blk_put (cs := #[.int .i64 0, .bool false, .int .i64 0, .int .i64 0, .int .i64 0, .int .i64 0, .int .i64 0, .int .i64 0, .bool false]) ?_ 0 _ (by first | rfl | (subst_vars; rfl)); (with_reducible repeat (first | refine blk_drewN ?_ _ | refine blk_drew ?_ | refine blk_alloc ?_ _)); exact BK166.out⟩
              have n1_ : Aside0 (Below w.heap.size w (((((((((w37.setCell ⟨gb166, 0, none⟩ (.int .i64 ((rd_T135 l0 x7_1).f0))).setCell ⟨gb166, 1, none⟩ (.bool ((rd_T135 l0 x7_1).f1))).setCell ⟨gb166, 2, none⟩ (.int .i64 ((rd_T135 l0 x7_1).f2.f0))).setCell ⟨gb166, 3, none⟩ (.int .i64 ((rd_T135 l0 x7_1).f2.f1))).setCell ⟨gb166, 4, none⟩ (.int .i64 ((rd_T135 l0 x7_1).f2.f2))).setCell ⟨gb166, 5, none⟩ (.int .i64 ((rd_T135 l0 x7_1).f2.f3))).setCell ⟨gb166, 6, none⟩ (.int .i64 ((rd_T135 l0 x7_1).f2.f4))).setCell ⟨gb166, 7, none⟩ (.int .i64 ((rd_T135 l0 x7_1).f2.f5))).setCell ⟨gb166, 8, none⟩ (.bool ((rd_T135 l0 x7_1).f2.f6)))) := ⟨by repeat (first | (with_reducible first | exact HB.out | apply below_alloc | apply pw_below_drewN | apply below_drew1 | refine below_set ?_ GE166.out) | exact HB.out)⟩
              (try clear BK166)
              (try clear HB)
              generalize (((((((((w37.setCell ⟨gb166, 0, none⟩ (.int .i64 ((rd_T135 l0 x7_1).f0))).setCell ⟨gb166, 1, none⟩ (.bool ((rd_T135 l0 x7_1).f1))).setCell ⟨gb166, 2, none⟩ (.int .i64 ((rd_T135 l0 x7_1).f2.f0))).setCell ⟨gb166, 3, none⟩ (.int .i64 ((rd_T135 l0 x7_1).f2.f1))).setCell ⟨gb166, 4, none⟩ (.int .i64 ((rd_T135 l0 x7_1).f2.f2))).setCell ⟨gb166, 5, none⟩ (.int .i64 ((rd_T135 l0 x7_1).f2.f3))).setCell ⟨gb166, 6, none⟩ (.int .i64 ((rd_T135 l0 x7_1).f2.f4))).setCell ⟨gb166, 7, none⟩ (.int .i64 ((rd_T135 l0 x7_1).f2.f5))).setCell ⟨gb166, 8, none⟩ (.bool ((rd_T135 l0 x7_1).f2.f6))) = w39 at n0_ n1_ ⊢
              have BK166 := n0_
              have HB := n1_
              clear n0_ n1_
              have n0_ := Aside0.mk (blk_drew BK166.out)
              have n1_ := Aside0.mk (below_drew1 HB.out)
              clear BK166
              clear HB
              have BK166 := n0_
              have HB := n1_
              clear n0_ n1_
              refine start_ (n := 24) (S := fun w' => w'.cell? ⟨gb166, 0, none⟩ = some (.int .i64 ((rd_T135 l0 x7_1).f0)) ∧ w'.cell? ⟨gb166, 1, none⟩ = some (.bool ((rd_T135 l0 x7_1).f1)) ∧ w'.cell? ⟨gb166, 2, none⟩ = some (.int .i64 ((rd_T135 l0 x7_1).f2.f0)) ∧ w'.cell? ⟨gb166, 3, none⟩ = some (.int .i64 ((rd_T135 l0 x7_1).f2.f1)) ∧ w'.cell? ⟨gb166, 4, none⟩ = some (.int .i64 ((rd_T135 l0 x7_1).f2.f2)) ∧ w'.cell? ⟨gb166, 5, none⟩ = some (.int .i64 ((rd_T135 l0 x7_1).f2.f3)) ∧ w'.cell? ⟨gb166, 6, none⟩ = some (.int .i64 ((rd_T135 l0 x7_1).f2.f4)) ∧ w'.cell? ⟨gb166, 7, none⟩ = some (.int .i64 ((rd_T135 l0 x7_1).f2.f5)) ∧ w'.cell? ⟨gb166, 8, none⟩ = some (.bool ((rd_T135 l0 x7_1).f2.f6))) (ds := []) #[false, false, false, false, false, false, false, false, false, false, false, false, false, false, false, false, false, false, false, false, false, false, false, false] (by kernel_rfl) rfl rfl ⟨(blk_cell BK166.out 0).trans rfl, (blk_cell BK166.out 1).trans rfl, (blk_cell BK166.out 2).trans rfl, (blk_cell BK166.out 3).trans rfl, (blk_cell BK166.out 4).trans rfl, (blk_cell BK166.out 5).trans rfl, (blk_cell BK166.out 6).trans rfl, (blk_cell BK166.out 7).trans rfl, (blk_cell BK166.out 8).trans rfl⟩ (fun hHeld => ?_); refine with_tabW impl_RibRight.tab4 impl_RibRight.bits4 (fun HT_ HW_ => ?_)
              generalize w39.drew = w40 at BK166 HB hHeld ⊢
              refine pure_ (i := 0) (N := some 12) (v := ?_) (a' := ?_) #[true, false, false, false, false, false, false, false, false, false, false, false, false, false, false, false, false, false, false, false, false, false, false, false] rfl rfl (any_of HT_.out (by kernel_rfl)) (fun _ _ _ h => h) (Or.inl ⟨by rfl, ?_⟩) ?_ ?_
              rotate_left
              · intro w'
                go_simp
                with_reducible rfl
              rotate_left
              · simp only [Act.put, List.setIfInBounds_toArray, List.set_cons_zero, List.set_cons_succ, i64_w, i32_w]
                rfl
              refine take_ (i := 1) (N := some 13) (v := ?_) (a' := ?_) #[true, true, false, false, false, false, false, false, false, false, false, false, false, false, false, false, false, false, false, false, false, false, false, false] rfl rfl (take_ofW HT_.out HW_.out (by kernel_rfl)) (fun _ _ _ h => h) (Or.inl ⟨by rfl, ?_⟩) hHeld ?_ ?_
              rotate_left
              · rintro w' ⟨s0, s1, s2, s3, s4, s5, s6, s7, s8⟩
                go_simp
                with_reducible rfl
              rotate_left
              · simp only [Act.put, List.setIfInBounds_toArray, List.set_cons_zero, List.set_cons_succ, i64_w, i32_w]
                rfl
              refine one_ (i := 2) (N := some 14) #[true, true, true, false, false, false, false, false, false, false, false, false, false, false, false, false, false, false, false, false, false, false, false, false] rfl rfl (one_of HT_.out (by kernel_rfl)) (by decide) (fun K hK => ?_)
              refine goes_ Try.func123 (by kernel_rfl) rfl #[.int .i64 ((rd_T135 l0 x7_1).f0)] (by rfl) rfl rfl (by (try simp only [List.map_toArray, List.map_cons, List.map_nil]); first | done | rfl | (simp only [List.length_drop, List.length_take]; rfl)) ?_
              with_reducible refine (impl_isPeer.calls ((rd_T135 l0 x7_1).f0) false _ A5.out).mono ?_
              rintro e w' ⟨rfl, ⟨nd, rfl⟩⟩
              refine ⟨_, rfl, ?_⟩
              refine hK.out _ _ ⟨(blk_cell BK166.out 0).trans rfl, (blk_cell BK166.out 1).trans rfl, (blk_cell BK166.out 2).trans rfl, (blk_cell BK166.out 3).trans rfl, (blk_cell BK166.out 4).trans rfl, (blk_cell BK166.out 5).trans rfl, (blk_cell BK166.out 6).trans rfl, (blk_cell BK166.out 7).trans rfl, (blk_cell BK166.out 8).trans rfl⟩ (fun hHeld => ?_)
              clear hK K
              refine norm_ (a' := ?_) ?_ ?_
              rotate_left
              · show Act.put _ (some 14) _ = _
                simp only [Act.put, List.setIfInBounds_toArray, List.set_cons_zero, List.set_cons_succ, i64_w, i32_w]
                rfl
              refine pure_ (i := 3) (N := some 15) (v := ?_) (a' := ?_) #[true, true, true, true, false, false, false, false, false, false, false, false, false, false, false, false, false, false, false, false, false, false, false, false] rfl rfl (any_of HT_.out (by kernel_rfl)) (fun _ _ _ h => h) (Or.inl ⟨by rfl, ?_⟩) ?_ ?_
              rotate_left
              · intro w'
                go_simp
                with_reducible rfl
              rotate_left
              · simp only [Act.put, List.setIfInBounds_toArray, List.set_cons_zero, List.set_cons_succ, i64_w, i32_w]
                rfl
              refine pure_ (i := 4) (N := some 16) (v := ?_) (a' := ?_) #[true, true, true, true, true, false, false, false, false, false, false, false, false, false, false, false, false, false, false, false, false, false, false, false] rfl rfl (any_of HT_.out (by kernel_rfl)) (fun _ _ _ h => h) (Or.inl ⟨by rfl, ?_⟩) ?_ ?_
              rotate_left
              · intro w'
                go_simp
                with_reducible rfl
              rotate_left
              · simp only [Act.put, List.setIfInBounds_toArray, List.set_cons_zero, List.set_cons_succ, i64_w, i32_w]
                rfl
              refine pure_ (i := 5) (N := some 17) (v := undef) (a' := ?_) #[true, true, true, true, true, true, false, false, false, false, false, false, false, false, false, false, false, false, false, false, false, false, false, false] rfl rfl (any_of HT_.out (by kernel_rfl)) (fun _ _ _ h => h) (Or.inr ⟨by rfl, rfl⟩) ?_ ?_
              rotate_left
              · simp only [Act.put, List.setIfInBounds_toArray, List.set_cons_zero, List.set_cons_succ, i64_w, i32_w]
                rfl
              refine pure_ (i := 6) (N := some 18) (v := undef) (a' := ?_) #[true, true, true, true, true, true, true, false, false, false, false, false, false, false, false, false, false, false, false, false, false, false, false, false] rfl rfl (any_of HT_.out (by kernel_rfl)) (fun _ _ _ h => h) (Or.inr ⟨by rfl, rfl⟩) ?_ ?_
              rotate_left
              · simp only [Act.put, List.setIfInBounds_toArray, List.set_cons_zero, List.set_cons_succ, i64_w, i32_w]
                rfl
              refine pure_ (i := 7) (N := some 19) (v := undef) (a' := ?_) #[true, true, true, true, true, true, true, true, false, false, false, false, false, false, false, false, false, false, false, false, false, false, false, false] rfl rfl (any_of HT_.out (by kernel_rfl)) (fun _ _ _ h => h) (Or.inr ⟨by rfl, rfl⟩) ?_ ?_
              rotate_left
              · simp only [Act.put, List.setIfInBounds_toArray, List.set_cons_zero, List.set_cons_succ, i64_w, i32_w]
                rfl
              refine pure_ (i := 8) (N := some 20) (v := undef) (a' := ?_) #[true, true, true, true, true, true, true, true, true, false, false, false, false, false, false, false, false, false, false, false, false, false, false, false] rfl rfl (any_of HT_.out (by kernel_rfl)) (fun _ _ _ h => h) (Or.inr ⟨by rfl, rfl⟩) ?_ ?_
              rotate_left
              · simp only [Act.put, List.setIfInBounds_toArray, List.set_cons_zero, List.set_cons_succ, i64_w, i32_w]
                rfl
              refine pure_ (i := 9) (N := some 21) (v := ?_) (a' := ?_) #[true, true, true, true, true, true, true, true, true, true, false, false, false, false, false, false, false, false, false, false, false, false, false, false] rfl rfl (any_of HT_.out (by kernel_rfl)) (fun _ _ _ h => h) (Or.inl ⟨by rfl, ?_⟩) ?_ ?_
              rotate_left
              · intro w'
                go_simp
                with_reducible rfl
              rotate_left
              · simp only [Act.put, List.setIfInBounds_toArray, List.set_cons_zero, List.set_cons_succ, i64_w, i32_w]
                rfl
              refine pure_ (i := 10) (N := some 22) (v := ?_) (a' := ?_) #[true, true, true, true, true, true, true, true, true, true, true, false, false, false, false, false, false, false, false, false, false, false, false, false] rfl rfl (any_of HT_.out (by kernel_rfl)) (fun _ _ _ h => h) (Or.inl ⟨by rfl, ?_⟩) ?_ ?_
              rotate_left
              · intro w'
                go_simp
                with_reducible rfl
              rotate_left
              · simp only [Act.put, List.setIfInBounds_toArray, List.set_cons_zero, List.set_cons_succ, i64_w, i32_w]
                rfl
              refine pure_ (i := 11) (N := some 23) (v := undef) (a' := ?_) #[true, true, true, true, true, true, true, true, true, true, true, true, false, false, false, false, false, false, false, false, false, false, false, false] rfl rfl (any_of HT_.out (by kernel_rfl)) (fun _ _ _ h => h) (Or.inr ⟨by rfl, rfl⟩) ?_ ?_
              rotate_left
              · simp only [Act.put, List.setIfInBounds_toArray, List.set_cons_zero, List.set_cons_succ, i64_w, i32_w]
                rfl
              refine pure_ (i := 12) (N := some 24) (v := undef) (a' := ?_) #[true, true, true, true, true, true, true, true, true, true, true, true, true, false, false, false, false, false, false, false, false, false, false, false] rfl rfl (any_of HT_.out (by kernel_rfl)) (fun _ _ _ h => h) (Or.inr ⟨by rfl, rfl⟩) ?_ ?_
              rotate_left
              · simp only [Act.put, List.setIfInBounds_toArray, List.set_cons_zero, List.set_cons_succ, i64_w, i32_w]
                rfl
              refine pure_ (i := 13) (N := some 25) (v := undef) (a' := ?_) #[true, true, true, true, true, true, true, true, true, true, true, true, true, true, false, false, false, false, false, false, false, false, false, false] rfl rfl (any_of HT_.out (by kernel_rfl)) (fun _ _ _ h => h) (Or.inr ⟨by rfl, rfl⟩) ?_ ?_
              rotate_left
              · simp only [Act.put, List.setIfInBounds_toArray, List.set_cons_zero, List.set_cons_succ, i64_w, i32_w]
                rfl
              refine pure_ (i := 14) (N := some 26) (v := undef) (a' := ?_) #[true, true, true, true, true, true, true, true, true, true, true, true, true, true, true, false, false, false, false, false, false, false, false, false] rfl rfl (any_of HT_.out (by kernel_rfl)) (fun _ _ _ h => h) (Or.inr ⟨by rfl, rfl⟩) ?_ ?_
              rotate_left
              · simp only [Act.put, List.setIfInBounds_toArray, List.set_cons_zero, List.set_cons_succ, i64_w, i32_w]
                rfl
              refine pure_ (i := 15) (N := some 27) (v := undef) (a' := ?_) #[true, true, true, true, true, true, true, true, true, true, true, true, true, true, true, true, false, false, false, false, false, false, false, false] rfl rfl (any_of HT_.out (by kernel_rfl)) (fun _ _ _ h => h) (Or.inr ⟨by rfl, rfl⟩) ?_ ?_
              rotate_left
              · simp only [Act.put, List.setIfInBounds_toArray, List.set_cons_zero, List.set_cons_succ, i64_w, i32_w]
                rfl
              refine pure_ (i := 16) (N := some 28) (v := undef) (a' := ?_) #[true, true, true, true, true, true, true, true, true, true, true, true, true, true, true, true, true, false, false, false, false, false, false, false] rfl rfl (any_of HT_.out (by kernel_rfl)) (fun _ _ _ h => h) (Or.inr ⟨by rfl, rfl⟩) ?_ ?_
              rotate_left
              · simp only [Act.put, List.setIfInBounds_toArray, List.set_cons_zero, List.set_cons_succ, i64_w, i32_w]
                rfl
              refine pure_ (i := 17) (N := some 29) (v := undef) (a' := ?_) #[true, true, true, true, true, true, true, true, true, true, true, true, true, true, true, true, true, true, false, false, false, false, false, false] rfl rfl (any_of HT_.out (by kernel_rfl)) (fun _ _ _ h => h) (Or.inr ⟨by rfl, rfl⟩) ?_ ?_
              rotate_left
              · simp only [Act.put, List.setIfInBounds_toArray, List.set_cons_zero, List.set_cons_succ, i64_w, i32_w]
                rfl
              refine pure_ (i := 18) (N := some 30) (v := undef) (a' := ?_) #[true, true, true, true, true, true, true, true, true, true, true, true, true, true, true, true, true, true, true, false, false, false, false, false] rfl rfl (any_of HT_.out (by kernel_rfl)) (fun _ _ _ h => h) (Or.inr ⟨by rfl, rfl⟩) ?_ ?_
              rotate_left
              · simp only [Act.put, List.setIfInBounds_toArray, List.set_cons_zero, List.set_cons_succ, i64_w, i32_w]
                rfl
              refine pure_ (i := 19) (N := some 31) (v := undef) (a' := ?_) #[true, true, true, true, true, true, true, true, true, true, true, true, true, true, true, true, true, true, true, true, false, false, false, false] rfl rfl (any_of HT_.out (by kernel_rfl)) (fun _ _ _ h => h) (Or.inr ⟨by rfl, rfl⟩) ?_ ?_
              rotate_left
              · simp only [Act.put, List.setIfInBounds_toArray, List.set_cons_zero, List.set_cons_succ, i64_w, i32_w]
                rfl
              refine pure_ (i := 20) (N := some 32) (v := undef) (a' := ?_) #[true, true, true, true, true, true, true, true, true, true, true, true, true, true, true, true, true, true, true, true, true, false, false, false] rfl rfl (any_of HT_.out (by kernel_rfl)) (fun _ _ _ h => h) (Or.inr ⟨by rfl, rfl⟩) ?_ ?_
              rotate_left
              · simp only [Act.put, List.setIfInBounds_toArray, List.set_cons_zero, List.set_cons_succ, i64_w, i32_w]
                rfl
              refine pure_ (i := 21) (N := some 33) (v := undef) (a' := ?_) #[true, true, true, true, true, true, true, true, true, true, true, true, true, true, true, true, true, true, true, true, true, true, false, false] rfl rfl (any_of HT_.out (by kernel_rfl)) (fun _ _ _ h => h) (Or.inr ⟨by rfl, rfl⟩) ?_ ?_
              rotate_left
              · simp only [Act.put, List.setIfInBounds_toArray, List.set_cons_zero, List.set_cons_succ, i64_w, i32_w]
                rfl
              refine pure_ (i := 22) (N := some 34) (v := undef) (a' := ?_) #[true, true, true, true, true, true, true, true, true, true, true, true, true, true, true, true, true, true, true, true, true, true, true, false] rfl rfl (any_of HT_.out (by kernel_rfl)) (fun _ _ _ h => h) (Or.inr ⟨by rfl, rfl⟩) ?_ ?_
              rotate_left
              · simp only [Act.put, List.setIfInBounds_toArray, List.set_cons_zero, List.set_cons_succ, i64_w, i32_w]
                rfl
              refine pure_ (i := 23) (N := some 35) (v := ?_) (a' := ?_) #[true, true, true, true, true, true, true, true, true, true, true, true, true, true, true, true, true, true, true, true, true, true, true, true] rfl rfl (any_of HT_.out (by kernel_rfl)) (fun _ _ _ h => h) (Or.inl ⟨by rfl, ?_⟩) ?_ ?_
              rotate_left
              · intro w'
                go_simp
                with_reducible rfl
              rotate_left
              · simp only [Act.put, List.setIfInBounds_toArray, List.set_cons_zero, List.set_cons_succ, i64_w, i32_w]
                rfl
              refine done_ (done_of HT_.out (by kernel_rfl)) ?_
              try go_wp2
              go_ret
              exact ⟨by first | rfl | (simp [errW_none, errW_some] <;> rfl) | (simp [*, errW_none, errW_some] <;> rfl), by repeat (first | (with_reducible first | exact HB.out | apply below_alloc | apply pw_below_drewN | apply below_drew1 | refine below_set ?_ GE166.out) | exact HB.out)⟩
          · rw [if_neg c4] at H
            exact absurd H (by simp)
        · rw [if_neg c3] at H
          exact absurd H (by simp)
      · rw [if_neg c2] at H
        have c2b0 : decide (x7_1 < (l0.length : Int)) = false := decide_eq_false c2
        clear c2
        obtain rfl := Option.some.inj H
        go_wp2
        go_ret
        exact ⟨by first | rfl | (simp [errW_none, errW_some] <;> rfl) | (simp [*, errW_none, errW_some] <;> rfl), by repeat (first | (with_reducible first | exact HB.out | apply below_alloc | apply pw_below_drewN | apply below_drew1) | exact HB.out)⟩

end Go.Proofs.Ytkbhdiambabnnaa.PFnExactRibRight
