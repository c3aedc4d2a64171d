-- Written by a program of this session (wip/ep), out of the translation. Lean checks it.
import Derived.Test.YtkbhdiambabnnaaPFnExactRibRightx0
import Derived.Test.YtkbhdiambabnnaaPFnExactRibRightx2
namespace Go.Proofs.Ytkbhdiambabnnaa.PFnExactRibRight
open Go.RowKit Go.Proofs.YtkbhdiambabnnaaW.PrintWords Go.Proofs.YtkbhdiambabnnaaW.PrintLast Go.Proofs.YtkbhdiambabnnaaW.PrintMore
attribute [local go_sem] max2_int min2_int max_two min_two max_three min_three max_four min_four   -- for this text's walks alone
set_option linter.unusedVariables false
set_option linter.unusedSimpArgs false

/-! ### spec_RibRight: function 63 -/
def spec_RibRight.l0 : Nat → List (S135) → Int → Option (Bool)
  | 0, _, _ => none
  | k + 1, x0, x3 => if x3 < (x0.length : Int) then (if 0 ≤ x3 then ((spec_l06Peer.f ((rd_T135 x0 x3).f0)).bind fun t114 => (if t114 = true then ((spec_RouteRight.f k ((rd_T135 x0 x3).f2.f0) ((rd_T135 x0 x3).f2.f1) ((rd_T135 x0 x3).f2.f2) ((rd_T135 x0 x3).f2.f3) ((rd_T135 x0 x3).f2.f4) ((rd_T135 x0 x3).f2.f5) ((rd_T135 x0 x3).f2.f6)).bind fun t116 => (if t116 = true then (if x3 > 0 then (if 0 ≤ (wrap64 (x3 - 1)) then (if (wrap64 (x3 - 1)) < (x0.length : Int) then ((spec_l06Less.f ((rd_T135 x0 (wrap64 (x3 - 1))).f0) ((rd_T135 x0 (wrap64 (x3 - 1))).f1) ((rd_T135 x0 (wrap64 (x3 - 1))).f2.f0) ((rd_T135 x0 (wrap64 (x3 - 1))).f2.f1) ((rd_T135 x0 (wrap64 (x3 - 1))).f2.f2) ((rd_T135 x0 (wrap64 (x3 - 1))).f2.f3) ((rd_T135 x0 (wrap64 (x3 - 1))).f2.f4) ((rd_T135 x0 (wrap64 (x3 - 1))).f2.f5) ((rd_T135 x0 (wrap64 (x3 - 1))).f2.f6) ((rd_T135 x0 x3).f0) ((rd_T135 x0 x3).f1) ((rd_T135 x0 x3).f2.f0) ((rd_T135 x0 x3).f2.f1) ((rd_T135 x0 x3).f2.f2) ((rd_T135 x0 x3).f2.f3) ((rd_T135 x0 x3).f2.f4) ((rd_T135 x0 x3).f2.f5) ((rd_T135 x0 x3).f2.f6)).bind fun t119 => (if t119 = true then (spec_RibRight.l0 k x0 (wrap64 (x3 + 1))) else (some false))) else (none)) else (none)) else (spec_RibRight.l0 k x0 (wrap64 (x3 + 1)))) else (some false))) else (some false))) else (none)) else (some true)
def spec_RibRight.f (k : Nat) (l0 : List (S135)) : Option (Bool) := if (l0.length : Int) > 60 then (some false) else (spec_RibRight.l0 k l0 0)
theorem spec_RibRight.mono_l : ∀ k, (∀ y0 y1, LeO (spec_RibRight.l0 k y0 y1) (spec_RibRight.l0 (k + 1) y0 y1))
  | 0 => fun _ _ r h => by simp [spec_RibRight.l0] at h
  | k + 1 => by
    have ih0 := spec_RibRight.mono_l k
    · intro y0 y1
      unfold spec_RibRight.l0
      repeat' first
      | (with_reducible exact ih0 _ _)
      | (with_reducible exact spec_RouteRight.mono _ _ _ _ _ _ _ _)
      | (with_reducible exact LeO.refl _)
      | (with_reducible exact LeO.none _)
      | (with_reducible refine LeO.ite ?_ ?_)
      | (with_reducible refine LeO.bind ?_ (fun _ => ?_))
      | exact ih0 _ _
      | exact spec_RouteRight.mono _ _ _ _ _ _ _ _
      | exact LeO.none _
      | refine LeO.ite ?_ ?_
      | refine LeO.bind ?_ (fun _ => ?_)
theorem spec_RibRight.mono : ∀ a0 k, LeO (spec_RibRight.f k a0) (spec_RibRight.f (k + 1) a0) := by
  intro a0 k
  have ih0 := spec_RibRight.mono_l k
  unfold spec_RibRight.f
  repeat' first
      | (with_reducible exact ih0 _ _)
      | (with_reducible exact spec_RouteRight.mono _ _ _ _ _ _ _ _)
      | (with_reducible exact LeO.refl _)
      | (with_reducible exact LeO.none _)
      | (with_reducible refine LeO.ite ?_ ?_)
      | (with_reducible refine LeO.bind ?_ (fun _ => ?_))
      | exact ih0 _ _
      | exact spec_RouteRight.mono _ _ _ _ _ _ _ _
      | exact LeO.none _
      | refine LeO.ite ?_ ?_
      | refine LeO.bind ?_ (fun _ => ?_)
def spec_RibRight.T6 : Bool × List (List Nat × List Nat) := (true, [([], []), ([], []), ([0, 1], [0, 1]), ([2], [2]), ([3], [3]), ([4], [4]), ([5], [5]), ([6, 5], [6]), ([7], [7]), ([7], [7]), ([8, 9, 7], [7, 8, 9]), ([10, 7], [7, 10]), ([11, 7], [7, 11]), ([12, 7, 7], [7, 12]), ([13, 7], [7, 13]), ([7, 14], [7, 14]), ([15, 13], [15]), ([16], [16]), ([17, 16], [16, 17]), ([18, 16, 16], [16, 18]), ([19], [19]), ([19], [19]), ([21, 19], [19, 21]), ([20, 22, 19], [19, 20, 22]), ([23, 19], [19, 23]), ([19], [19]), ([19], [19]), ([25, 26, 19], [19, 25, 26]), ([27, 19], [19, 27]), ([24, 28, 19, 19], [19, 24, 28]), ([29, 19], [19, 29]), ([19, 30, 16], [16, 19, 30]), ([16, 31], [16, 31])])
def spec_RibRight.B6 : List Nat := [0, 0, 3, 7, 15, 31, 63, 127, 255, 255, 1023, 2047, 4095, 8191, 16383, 32767, 65535, 131071, 262143, 524287, 1048575, 1048575, 3145727, 8388607, 16777215, 1048575, 1048575, 101711871, 235929599, 536870911, 1073741823, 2147483647, 4294967295]
theorem spec_RibRight.tab6 : rtab .any (opsOf Try.f63 6) = spec_RibRight.T6 := by kernel_rfl
theorem spec_RibRight.bits6 : waitsOk spec_RibRight.T6.2 spec_RibRight.B6 = true := by kernel_rfl
set_option maxHeartbeats 8000000 in
set_option maxRecDepth 100000 in
theorem spec_RibRight.calls (k : Nat) (A0 : Option Addr) (c0 : Nat) (l0 : List (S135)) (r : Bool) (w : World) (hr0 : Kd.C k135 w A0 l0.length l0) (hc0 : l0.length ≤ c0) (h : spec_RibRight.f k l0 = some r) :
    Calls Try.prog 63 #[.slice A0 l0.length c0] w fun e w' => e = .returned (.bool r) ∧ Below w.heap.size w w' := by
  have hu59 := Try.underlying59
  have hu135 := Try.underlying135
  have HR0 := Aside0.mk hr0
  have HC0 := Aside0.mk hc0
  clear hr0 hc0
  have HB := Aside0.mk (Below.refl w.heap.size w)
  have H : (if (l0.length : Int) > 60 then (some false) else (spec_RibRight.l0 k l0 0)) = some r := h
  clear h
  by_cases c2 : (l0.length : Int) > 60
  · rw [if_pos c2] at H
    have c2b0 : decide (60 < (l0.length : Int)) = true := decide_eq_true c2
    have c2b1 : decide (60 < l0.length) = true := decide_eq_true (by omega)
    clear c2
    obtain rfl := Option.some.inj H
    go_enter Try.func63, Try.ntmps63
    go_wp2
    go_ret
    exact ⟨by first | rfl | (simp [errW_none, errW_some] <;> rfl) | (simp [*, errW_none, errW_some] <;> rfl), by repeat (first | (with_reducible first | exact HB.out | apply below_alloc | apply pw_below_drewN | apply below_drew1) | exact HB.out)⟩
  · rw [if_neg c2] at H
    have c2b0 : decide (60 < (l0.length : Int)) = false := decide_eq_false c2
    have c2b1 : decide (60 < l0.length) = false := decide_eq_false (by omega)
    clear c2
    have H' := Aside0.mk H
    clear H
    go_enter Try.func63, Try.ntmps63
    go_wp2
    go_loopg [3] k (fun kq v3 w' => ∃ (x3_1 : Int), v3 = .int .i64 x3_1 ∧ Aside0 (spec_RibRight.l0 kq l0 x3_1 = some r) ∧ Aside0 (kq ≤ k) ∧ Aside0 (Below w.heap.size w w'))
    case atStart => exact ⟨(0), (by first | rfl | (simp; done) | (simp [*]; done)), H', ⟨Nat.le_refl _⟩, ⟨by repeat (first | (with_reducible first | exact HB.out | apply below_alloc | apply pw_below_drewN | apply below_drew1) | exact HB.out)⟩⟩
    case round =>
      clear H'
      try clear c2
      try clear c2b0
      try clear c2b1
      try clear p2
      obtain ⟨x3_1, rfl, HA, HK1, HB⟩ := hrel
      cases gk with
      | zero => exact absurd HA.out (by simp [spec_RibRight.l0])
      | succ k1 =>
        have H := HA.out
        clear HA
        simp only [spec_RibRight.l0] at H
        by_cases c3 : x3_1 < (l0.length : Int)
        · rw [if_pos c3] at H
          have c3b0 : decide (x3_1 < (l0.length : Int)) = true := decide_eq_true c3
          clear c3
          by_cases c4 : 0 ≤ x3_1
          · rw [if_pos c4] at H
            have c4b0 : decide (0 ≤ x3_1) = true := decide_eq_true c4
            clear c4
            replace H := Option.bind_eq_some_iff.mp H
            obtain ⟨t114, A50, H⟩ := H
            replace H : (if t114 = true then ((spec_RouteRight.f k1 ((rd_T135 l0 x3_1).f2.f0) ((rd_T135 l0 x3_1).f2.f1) ((rd_T135 l0 x3_1).f2.f2) ((rd_T135 l0 x3_1).f2.f3) ((rd_T135 l0 x3_1).f2.f4) ((rd_T135 l0 x3_1).f2.f5) ((rd_T135 l0 x3_1).f2.f6)).bind fun t116 => (if t116 = true then (if x3_1 > 0 then (if 0 ≤ (wrap64 (x3_1 - 1)) then (if (wrap64 (x3_1 - 1)) < (l0.length : Int) then ((spec_l06Less.f ((rd_T135 l0 (wrap64 (x3_1 - 1))).f0) ((rd_T135 l0 (wrap64 (x3_1 - 1))).f1) ((rd_T135 l0 (wrap64 (x3_1 - 1))).f2.f0) ((rd_T135 l0 (wrap64 (x3_1 - 1))).f2.f1) ((rd_T135 l0 (wrap64 (x3_1 - 1))).f2.f2) ((rd_T135 l0 (wrap64 (x3_1 - 1))).f2.f3) ((rd_T135 l0 (wrap64 (x3_1 - 1))).f2.f4) ((rd_T135 l0 (wrap64 (x3_1 - 1))).f2.f5) ((rd_T135 l0 (wrap64 (x3_1 - 1))).f2.f6) ((rd_T135 l0 x3_1).f0) ((rd_T135 l0 x3_1).f1) ((rd_T135 l0 x3_1).f2.f0) ((rd_T135 l0 x3_1).f2.f1) ((rd_T135 l0 x3_1).f2.f2) ((rd_T135 l0 x3_1).f2.f3) ((rd_T135 l0 x3_1).f2.f4) ((rd_T135 l0 x3_1).f2.f5) ((rd_T135 l0 x3_1).f2.f6)).bind fun t119 => (if t119 = true then (spec_RibRight.l0 k1 l0 (wrap64 (x3_1 + 1))) else (some false))) else (none)) else (none)) else (spec_RibRight.l0 k1 l0 (wrap64 (x3_1 + 1)))) else (some false))) else (some false)) = some r := H
            have A5 := Aside0.mk A50
            clear A50
            by_cases c6 : t114 = true
            · subst c6
              have H1 : ((spec_RouteRight.f k1 ((rd_T135 l0 x3_1).f2.f0) ((rd_T135 l0 x3_1).f2.f1) ((rd_T135 l0 x3_1).f2.f2) ((rd_T135 l0 x3_1).f2.f3) ((rd_T135 l0 x3_1).f2.f4) ((rd_T135 l0 x3_1).f2.f5) ((rd_T135 l0 x3_1).f2.f6)).bind fun t116 => (if t116 = true then (if x3_1 > 0 then (if 0 ≤ (wrap64 (x3_1 - 1)) then (if (wrap64 (x3_1 - 1)) < (l0.length : Int) then ((spec_l06Less.f ((rd_T135 l0 (wrap64 (x3_1 - 1))).f0) ((rd_T135 l0 (wrap64 (x3_1 - 1))).f1) ((rd_T135 l0 (wrap64 (x3_1 - 1))).f2.f0) ((rd_T135 l0 (wrap64 (x3_1 - 1))).f2.f1) ((rd_T135 l0 (wrap64 (x3_1 - 1))).f2.f2) ((rd_T135 l0 (wrap64 (x3_1 - 1))).f2.f3) ((rd_T135 l0 (wrap64 (x3_1 - 1))).f2.f4) ((rd_T135 l0 (wrap64 (x3_1 - 1))).f2.f5) ((rd_T135 l0 (wrap64 (x3_1 - 1))).f2.f6) ((rd_T135 l0 x3_1).f0) ((rd_T135 l0 x3_1).f1) ((rd_T135 l0 x3_1).f2.f0) ((rd_T135 l0 x3_1).f2.f1) ((rd_T135 l0 x3_1).f2.f2) ((rd_T135 l0 x3_1).f2.f3) ((rd_T135 l0 x3_1).f2.f4) ((rd_T135 l0 x3_1).f2.f5) ((rd_T135 l0 x3_1).f2.f6)).bind fun t119 => (if t119 = true then (spec_RibRight.l0 k1 l0 (wrap64 (x3_1 + 1))) else (some false))) else (none)) else (none)) else (spec_RibRight.l0 k1 l0 (wrap64 (x3_1 + 1)))) else (some false))) = some r := by rw [if_pos rfl] at H; exact H
              clear H
              have H := H1
              clear H1
              replace H := Option.bind_eq_some_iff.mp H
              obtain ⟨t116, A70, H⟩ := H
              replace H : (if t116 = true then (if x3_1 > 0 then (if 0 ≤ (wrap64 (x3_1 - 1)) then (if (wrap64 (x3_1 - 1)) < (l0.length : Int) then ((spec_l06Less.f ((rd_T135 l0 (wrap64 (x3_1 - 1))).f0) ((rd_T135 l0 (wrap64 (x3_1 - 1))).f1) ((rd_T135 l0 (wrap64 (x3_1 - 1))).f2.f0) ((rd_T135 l0 (wrap64 (x3_1 - 1))).f2.f1) ((rd_T135 l0 (wrap64 (x3_1 - 1))).f2.f2) ((rd_T135 l0 (wrap64 (x3_1 - 1))).f2.f3) ((rd_T135 l0 (wrap64 (x3_1 - 1))).f2.f4) ((rd_T135 l0 (wrap64 (x3_1 - 1))).f2.f5) ((rd_T135 l0 (wrap64 (x3_1 - 1))).f2.f6) ((rd_T135 l0 x3_1).f0) ((rd_T135 l0 x3_1).f1) ((rd_T135 l0 x3_1).f2.f0) ((rd_T135 l0 x3_1).f2.f1) ((rd_T135 l0 x3_1).f2.f2) ((rd_T135 l0 x3_1).f2.f3) ((rd_T135 l0 x3_1).f2.f4) ((rd_T135 l0 x3_1).f2.f5) ((rd_T135 l0 x3_1).f2.f6)).bind fun t119 => (if t119 = true then (spec_RibRight.l0 k1 l0 (wrap64 (x3_1 + 1))) else (some false))) else (none)) else (none)) else (spec_RibRight.l0 k1 l0 (wrap64 (x3_1 + 1)))) else (some false)) = some r := H
              have A7 := Aside0.mk A70
              clear A70
              by_cases c8 : t116 = true
              · subst c8
                have H1 : (if x3_1 > 0 then (if 0 ≤ (wrap64 (x3_1 - 1)) then (if (wrap64 (x3_1 - 1)) < (l0.length : Int) then ((spec_l06Less.f ((rd_T135 l0 (wrap64 (x3_1 - 1))).f0) ((rd_T135 l0 (wrap64 (x3_1 - 1))).f1) ((rd_T135 l0 (wrap64 (x3_1 - 1))).f2.f0) ((rd_T135 l0 (wrap64 (x3_1 - 1))).f2.f1) ((rd_T135 l0 (wrap64 (x3_1 - 1))).f2.f2) ((rd_T135 l0 (wrap64 (x3_1 - 1))).f2.f3) ((rd_T135 l0 (wrap64 (x3_1 - 1))).f2.f4) ((rd_T135 l0 (wrap64 (x3_1 - 1))).f2.f5) ((rd_T135 l0 (wrap64 (x3_1 - 1))).f2.f6) ((rd_T135 l0 x3_1).f0) ((rd_T135 l0 x3_1).f1) ((rd_T135 l0 x3_1).f2.f0) ((rd_T135 l0 x3_1).f2.f1) ((rd_T135 l0 x3_1).f2.f2) ((rd_T135 l0 x3_1).f2.f3) ((rd_T135 l0 x3_1).f2.f4) ((rd_T135 l0 x3_1).f2.f5) ((rd_T135 l0 x3_1).f2.f6)).bind fun t119 => (if t119 = true then (spec_RibRight.l0 k1 l0 (wrap64 (x3_1 + 1))) else (some false))) else (none)) else (none)) else (spec_RibRight.l0 k1 l0 (wrap64 (x3_1 + 1)))) = some r := by rw [if_pos rfl] at H; exact H
                clear H
                have H := H1
                clear H1
                by_cases c9 : x3_1 > 0
                · rw [if_pos c9] at H
                  have c9b0 : decide (0 < x3_1) = true := decide_eq_true c9
                  clear c9
                  obtain ⟨ji10, hji10⟩ : ∃ j_ : Int, (wrap64 (x3_1 - 1)) = j_ := ⟨_, rfl⟩
                  replace H : (if 0 ≤ (ji10) then (if (ji10) < (l0.length : Int) then ((spec_l06Less.f ((rd_T135 l0 (ji10)).f0) ((rd_T135 l0 (ji10)).f1) ((rd_T135 l0 (ji10)).f2.f0) ((rd_T135 l0 (ji10)).f2.f1) ((rd_T135 l0 (ji10)).f2.f2) ((rd_T135 l0 (ji10)).f2.f3) ((rd_T135 l0 (ji10)).f2.f4) ((rd_T135 l0 (ji10)).f2.f5) ((rd_T135 l0 (ji10)).f2.f6) ((rd_T135 l0 x3_1).f0) ((rd_T135 l0 x3_1).f1) ((rd_T135 l0 x3_1).f2.f0) ((rd_T135 l0 x3_1).f2.f1) ((rd_T135 l0 x3_1).f2.f2) ((rd_T135 l0 x3_1).f2.f3) ((rd_T135 l0 x3_1).f2.f4) ((rd_T135 l0 x3_1).f2.f5) ((rd_T135 l0 x3_1).f2.f6)).bind fun t119 => (if t119 = true then (spec_RibRight.l0 k1 l0 (wrap64 (x3_1 + 1))) else (some false))) else (none)) else (none)) = some r := by first | (rw [hji10] at H; exact H) | (simp only [hji10] at H ⊢; exact H)
                  (try rw [hji10] at A5)
                  (try rw [hji10] at A7)
                  have hji10w : (IntKind.i64.wrap (x3_1 - 1)) = ji10 := (i64_w _).trans hji10
                  by_cases c11 : 0 ≤ (ji10)
                  · rw [if_pos c11] at H
                    have c11b0 : decide (0 ≤ (ji10)) = true := decide_eq_true c11
                    clear c11
                    by_cases c12 : (ji10) < (l0.length : Int)
                    · rw [if_pos c12] at H
                      have c12b0 : decide ((ji10) < (l0.length : Int)) = true := decide_eq_true c12
                      clear c12
                      replace H := Option.bind_eq_some_iff.mp H
                      obtain ⟨t119, A130, H⟩ := H
                      replace H : (if t119 = true then (spec_RibRight.l0 k1 l0 (wrap64 (x3_1 + 1))) else (some false)) = some r := H
                      have A13 := Aside0.mk A130
                      clear A130
                      by_cases c14 : t119 = true
                      · subst c14
                        have H1 : (spec_RibRight.l0 k1 l0 (wrap64 (x3_1 + 1))) = some r := by rw [if_pos rfl] at H; exact H
                        clear H
                        have H := H1
                        clear H1
                        have H' := Aside0.mk H
                        clear H
                        try go_wp2
                        have n0_ := Aside0.mk (below_drew1 HB.out)
                        clear HB
                        have HB := n0_
                        clear n0_
                        have p113 : 0 ≤ (x3_1 : Int) := of_decide_eq_true (by first | (with_reducible assumption) | assumption)
                        have q113 : x3_1 < (l0.length : Int) := of_decide_eq_true (by first | (with_reducible assumption) | assumption)
                        obtain ⟨ad113, e113, hx113_0, hx113_1, hx113_2, hx113_3, hx113_4, hx113_5, hx113_6, hx113_7, hx113_8⟩ := at_T135 HR0.out x3_1 p113 q113
                        have hw113_8 := hx113_8
                        have hw113_7 := hx113_7
                        have hw113_6 := hx113_6
                        have hw113_5 := hx113_5
                        have hw113_4 := hx113_4
                        have hw113_3 := hx113_3
                        have hw113_2 := hx113_2
                        have hw113_1 := hx113_1
                        have hw113_0 := hx113_0
                        cases e113
                        replace hx113_0 := (HB.out.cell (World.block_lt_of_cell? w _ hx113_0)).trans hx113_0
                        replace hx113_1 := (HB.out.cell (World.block_lt_of_cell? w _ hx113_1)).trans hx113_1
                        replace hx113_2 := (HB.out.cell (World.block_lt_of_cell? w _ hx113_2)).trans hx113_2
                        replace hx113_3 := (HB.out.cell (World.block_lt_of_cell? w _ hx113_3)).trans hx113_3
                        replace hx113_4 := (HB.out.cell (World.block_lt_of_cell? w _ hx113_4)).trans hx113_4
                        replace hx113_5 := (HB.out.cell (World.block_lt_of_cell? w _ hx113_5)).trans hx113_5
                        replace hx113_6 := (HB.out.cell (World.block_lt_of_cell? w _ hx113_6)).trans hx113_6
                        replace hx113_7 := (HB.out.cell (World.block_lt_of_cell? w _ hx113_7)).trans hx113_7
                        replace hx113_8 := (HB.out.cell (World.block_lt_of_cell? w _ hx113_8)).trans hx113_8
                        replace p113 := eq_true p113
                        replace q113 := eq_true q113
                        have p115 : 0 ≤ (x3_1 : Int) := of_decide_eq_true (by first | (with_reducible assumption) | assumption)
                        have q115 : x3_1 < (l0.length : Int) := of_decide_eq_true (by first | (with_reducible assumption) | assumption)
                        obtain ⟨ad115, e115, hx115_0, hx115_1, hx115_2, hx115_3, hx115_4, hx115_5, hx115_6, hx115_7, hx115_8⟩ := at_T135 HR0.out x3_1 p115 q115
                        have hw115_8 := hx115_8
                        have hw115_7 := hx115_7
                        have hw115_6 := hx115_6
                        have hw115_5 := hx115_5
                        have hw115_4 := hx115_4
                        have hw115_3 := hx115_3
                        have hw115_2 := hx115_2
                        have hw115_1 := hx115_1
                        have hw115_0 := hx115_0
                        obtain rfl : ad113 = ad115 := (by injection e115)
                        replace hx115_0 := (HB.out.cell (World.block_lt_of_cell? w _ hx115_0)).trans hx115_0
                        replace hx115_1 := (HB.out.cell (World.block_lt_of_cell? w _ hx115_1)).trans hx115_1
                        replace hx115_2 := (HB.out.cell (World.block_lt_of_cell? w _ hx115_2)).trans hx115_2
                        replace hx115_3 := (HB.out.cell (World.block_lt_of_cell? w _ hx115_3)).trans hx115_3
                        replace hx115_4 := (HB.out.cell (World.block_lt_of_cell? w _ hx115_4)).trans hx115_4
                        replace hx115_5 := (HB.out.cell (World.block_lt_of_cell? w _ hx115_5)).trans hx115_5
                        replace hx115_6 := (HB.out.cell (World.block_lt_of_cell? w _ hx115_6)).trans hx115_6
                        replace hx115_7 := (HB.out.cell (World.block_lt_of_cell? w _ hx115_7)).trans hx115_7
                        replace hx115_8 := (HB.out.cell (World.block_lt_of_cell? w _ hx115_8)).trans hx115_8
                        replace p115 := eq_true p115
                        replace q115 := eq_true q115
                        have p117 : 0 ≤ ((ji10) : Int) := of_decide_eq_true (by first | (with_reducible assumption) | assumption)
                        have q117 : (ji10) < (l0.length : Int) := of_decide_eq_true (by first | (with_reducible assumption) | assumption)
                        obtain ⟨ad117, e117, hx117_0, hx117_1, hx117_2, hx117_3, hx117_4, hx117_5, hx117_6, hx117_7, hx117_8⟩ := at_T135 HR0.out (ji10) p117 q117
                        have hw117_8 := hx117_8
                        have hw117_7 := hx117_7
                        have hw117_6 := hx117_6
                        have hw117_5 := hx117_5
                        have hw117_4 := hx117_4
                        have hw117_3 := hx117_3
                        have hw117_2 := hx117_2
                        have hw117_1 := hx117_1
                        have hw117_0 := hx117_0
                        obtain rfl : ad113 = ad117 := (by injection e117)
                        replace hx117_0 := (HB.out.cell (World.block_lt_of_cell? w _ hx117_0)).trans hx117_0
                        replace hx117_1 := (HB.out.cell (World.block_lt_of_cell? w _ hx117_1)).trans hx117_1
                        replace hx117_2 := (HB.out.cell (World.block_lt_of_cell? w _ hx117_2)).trans hx117_2
                        replace hx117_3 := (HB.out.cell (World.block_lt_of_cell? w _ hx117_3)).trans hx117_3
                        replace hx117_4 := (HB.out.cell (World.block_lt_of_cell? w _ hx117_4)).trans hx117_4
                        replace hx117_5 := (HB.out.cell (World.block_lt_of_cell? w _ hx117_5)).trans hx117_5
                        replace hx117_6 := (HB.out.cell (World.block_lt_of_cell? w _ hx117_6)).trans hx117_6
                        replace hx117_7 := (HB.out.cell (World.block_lt_of_cell? w _ hx117_7)).trans hx117_7
                        replace hx117_8 := (HB.out.cell (World.block_lt_of_cell? w _ hx117_8)).trans hx117_8
                        replace p117 := eq_true p117
                        replace q117 := eq_true q117
                        have p118 : 0 ≤ (x3_1 : Int) := of_decide_eq_true (by first | (with_reducible assumption) | assumption)
                        have q118 : x3_1 < (l0.length : Int) := of_decide_eq_true (by first | (with_reducible assumption) | assumption)
                        obtain ⟨ad118, e118, hx118_0, hx118_1, hx118_2, hx118_3, hx118_4, hx118_5, hx118_6, hx118_7, hx118_8⟩ := at_T135 HR0.out x3_1 p118 q118
                        have hw118_8 := hx118_8
                        have hw118_7 := hx118_7
                        have hw118_6 := hx118_6
                        have hw118_5 := hx118_5
                        have hw118_4 := hx118_4
                        have hw118_3 := hx118_3
                        have hw118_2 := hx118_2
                        have hw118_1 := hx118_1
                        have hw118_0 := hx118_0
                        obtain rfl : ad113 = ad118 := (by injection e118)
                        replace hx118_0 := (HB.out.cell (World.block_lt_of_cell? w _ hx118_0)).trans hx118_0
                        replace hx118_1 := (HB.out.cell (World.block_lt_of_cell? w _ hx118_1)).trans hx118_1
                        replace hx118_2 := (HB.out.cell (World.block_lt_of_cell? w _ hx118_2)).trans hx118_2
                        replace hx118_3 := (HB.out.cell (World.block_lt_of_cell? w _ hx118_3)).trans hx118_3
                        replace hx118_4 := (HB.out.cell (World.block_lt_of_cell? w _ hx118_4)).trans hx118_4
                        replace hx118_5 := (HB.out.cell (World.block_lt_of_cell? w _ hx118_5)).trans hx118_5
                        replace hx118_6 := (HB.out.cell (World.block_lt_of_cell? w _ hx118_6)).trans hx118_6
                        replace hx118_7 := (HB.out.cell (World.block_lt_of_cell? w _ hx118_7)).trans hx118_7
                        replace hx118_8 := (HB.out.cell (World.block_lt_of_cell? w _ hx118_8)).trans hx118_8
                        replace p118 := eq_true p118
                        replace q118 := eq_true q118
                        refine start_ (n := 33) (S := fun w' => w'.cell? (ad113.add ((x3_1).toNat * 9)) = some (.int .i64 ((rd_T135 l0 x3_1).f0)) ∧ w'.cell? ⟨(ad113.add ((x3_1).toNat * 9)).block, (ad113.add ((x3_1).toNat * 9)).off + 1, none⟩ = some (.bool ((rd_T135 l0 x3_1).f1)) ∧ w'.cell? ⟨(ad113.add ((x3_1).toNat * 9)).block, (ad113.add ((x3_1).toNat * 9)).off + 2, none⟩ = some (.int .i64 ((rd_T135 l0 x3_1).f2.f0)) ∧ w'.cell? ⟨(ad113.add ((x3_1).toNat * 9)).block, (ad113.add ((x3_1).toNat * 9)).off + 3, none⟩ = some (.int .i64 ((rd_T135 l0 x3_1).f2.f1)) ∧ w'.cell? ⟨(ad113.add ((x3_1).toNat * 9)).block, (ad113.add ((x3_1).toNat * 9)).off + 4, none⟩ = some (.int .i64 ((rd_T135 l0 x3_1).f2.f2)) ∧ w'.cell? ⟨(ad113.add ((x3_1).toNat * 9)).block, (ad113.add ((x3_1).toNat * 9)).off + 5, none⟩ = some (.int .i64 ((rd_T135 l0 x3_1).f2.f3)) ∧ w'.cell? ⟨(ad113.add ((x3_1).toNat * 9)).block, (ad113.add ((x3_1).toNat * 9)).off + 6, none⟩ = some (.int .i64 ((rd_T135 l0 x3_1).f2.f4)) ∧ w'.cell? ⟨(ad113.add ((x3_1).toNat * 9)).block, (ad113.add ((x3_1).toNat * 9)).off + 7, none⟩ = some (.int .i64 ((rd_T135 l0 x3_1).f2.f5)) ∧ w'.cell? ⟨(ad113.add ((x3_1).toNat * 9)).block, (ad113.add ((x3_1).toNat * 9)).off + 8, none⟩ = some (.bool ((rd_T135 l0 x3_1).f2.f6)) ∧ w'.cell? (ad113.add ((x3_1).toNat * 9)) = some (.int .i64 ((rd_T135 l0 x3_1).f0)) ∧ w'.cell? ⟨(ad113.add ((x3_1).toNat * 9)).block, (ad113.add ((x3_1).toNat * 9)).off + 1, none⟩ = some (.bool ((rd_T135 l0 x3_1).f1)) ∧ w'.cell? ⟨(ad113.add ((x3_1).toNat * 9)).block, (ad113.add ((x3_1).toNat * 9)).off + 2, none⟩ = some (.int .i64 ((rd_T135 l0 x3_1).f2.f0)) ∧ w'.cell? ⟨(ad113.add ((x3_1).toNat * 9)).block, (ad113.add ((x3_1).toNat * 9)).off + 3, none⟩ = some (.int .i64 ((rd_T135 l0 x3_1).f2.f1)) ∧ w'.cell? ⟨(ad113.add ((x3_1).toNat * 9)).block, (ad113.add ((x3_1).toNat * 9)).off + 4, none⟩ = some (.int .i64 ((rd_T135 l0 x3_1).f2.f2)) ∧ w'.cell? ⟨(ad113.add ((x3_1).toNat * 9)).block, (ad113.add ((x3_1).toNat * 9)).off + 5, none⟩ = some (.int .i64 ((rd_T135 l0 x3_1).f2.f3)) ∧ w'.cell? ⟨(ad113.add ((x3_1).toNat * 9)).block, (ad113.add ((x3_1).toNat * 9)).off + 6, none⟩ = some (.int .i64 ((rd_T135 l0 x3_1).f2.f4)) ∧ w'.cell? ⟨(ad113.add ((x3_1).toNat * 9)).block, (ad113.add ((x3_1).toNat * 9)).off + 7, none⟩ = some (.int .i64 ((rd_T135 l0 x3_1).f2.f5)) ∧ w'.cell? ⟨(ad113.add ((x3_1).toNat * 9)).block, (ad113.add ((x3_1).toNat * 9)).off + 8, none⟩ = some (.bool ((rd_T135 l0 x3_1).f2.f6)) ∧ w'.cell? (ad113.add (((ji10)).toNat * 9)) = some (.int .i64 ((rd_T135 l0 (ji10)).f0)) ∧ w'.cell? ⟨(ad113.add (((ji10)).toNat * 9)).block, (ad113.add (((ji10)).toNat * 9)).off + 1, none⟩ = some (.bool ((rd_T135 l0 (ji10)).f1)) ∧ w'.cell? ⟨(ad113.add (((ji10)).toNat * 9)).block, (ad113.add (((ji10)).toNat * 9)).off + 2, none⟩ = some (.int .i64 ((rd_T135 l0 (ji10)).f2.f0)) ∧ w'.cell? ⟨(ad113.add (((ji10)).toNat * 9)).block, (ad113.add (((ji10)).toNat * 9)).off + 3, none⟩ = some (.int .i64 ((rd_T135 l0 (ji10)).f2.f1)) ∧ w'.cell? ⟨(ad113.add (((ji10)).toNat * 9)).block, (ad113.add (((ji10)).toNat * 9)).off + 4, none⟩ = some (.int .i64 ((rd_T135 l0 (ji10)).f2.f2)) ∧ w'.cell? ⟨(ad113.add (((ji10)).toNat * 9)).block, (ad113.add (((ji10)).toNat * 9)).off + 5, none⟩ = some (.int .i64 ((rd_T135 l0 (ji10)).f2.f3)) ∧ w'.cell? ⟨(ad113.add (((ji10)).toNat * 9)).block, (ad113.add (((ji10)).toNat * 9)).off + 6, none⟩ = some (.int .i64 ((rd_T135 l0 (ji10)).f2.f4)) ∧ w'.cell? ⟨(ad113.add (((ji10)).toNat * 9)).block, (ad113.add (((ji10)).toNat * 9)).off + 7, none⟩ = some (.int .i64 ((rd_T135 l0 (ji10)).f2.f5)) ∧ w'.cell? ⟨(ad113.add (((ji10)).toNat * 9)).block, (ad113.add (((ji10)).toNat * 9)).off + 8, none⟩ = some (.bool ((rd_T135 l0 (ji10)).f2.f6)) ∧ w'.cell? (ad113.add ((x3_1).toNat * 9)) = some (.int .i64 ((rd_T135 l0 x3_1).f0)) ∧ w'.cell? ⟨(ad113.add ((x3_1).toNat * 9)).block, (ad113.add ((x3_1).toNat * 9)).off + 1, none⟩ = some (.bool ((rd_T135 l0 x3_1).f1)) ∧ w'.cell? ⟨(ad113.add ((x3_1).toNat * 9)).block, (ad113.add ((x3_1).toNat * 9)).off + 2, none⟩ = some (.int .i64 ((rd_T135 l0 x3_1).f2.f0)) ∧ w'.cell? ⟨(ad113.add ((x3_1).toNat * 9)).block, (ad113.add ((x3_1).toNat * 9)).off + 3, none⟩ = some (.int .i64 ((rd_T135 l0 x3_1).f2.f1)) ∧ w'.cell? ⟨(ad113.add ((x3_1).toNat * 9)).block, (ad113.add ((x3_1).toNat * 9)).off + 4, none⟩ = some (.int .i64 ((rd_T135 l0 x3_1).f2.f2)) ∧ w'.cell? ⟨(ad113.add ((x3_1).toNat * 9)).block, (ad113.add ((x3_1).toNat * 9)).off + 5, none⟩ = some (.int .i64 ((rd_T135 l0 x3_1).f2.f3)) ∧ w'.cell? ⟨(ad113.add ((x3_1).toNat * 9)).block, (ad113.add ((x3_1).toNat * 9)).off + 6, none⟩ = some (.int .i64 ((rd_T135 l0 x3_1).f2.f4)) ∧ w'.cell? ⟨(ad113.add ((x3_1).toNat * 9)).block, (ad113.add ((x3_1).toNat * 9)).off + 7, none⟩ = some (.int .i64 ((rd_T135 l0 x3_1).f2.f5)) ∧ w'.cell? ⟨(ad113.add ((x3_1).toNat * 9)).block, (ad113.add ((x3_1).toNat * 9)).off + 8, none⟩ = some (.bool ((rd_T135 l0 x3_1).f2.f6))) (ds := []) #[false, false, false, false, false, false, false, false, false, false, false, false, false, false, false, false, false, false, false, false, false, false, false, false, false, false, false, false, false, false, false, false, false] (by kernel_rfl) rfl rfl ⟨((HB.out.cell (World.block_lt_of_cell? _ _ hw113_0)).trans hw113_0), ((HB.out.cell (World.block_lt_of_cell? _ _ hw113_1)).trans hw113_1), ((HB.out.cell (World.block_lt_of_cell? _ _ hw113_2)).trans hw113_2), ((HB.out.cell (World.block_lt_of_cell? _ _ hw113_3)).trans hw113_3), ((HB.out.cell (World.block_lt_of_cell? _ _ hw113_4)).trans hw113_4), ((HB.out.cell (World.block_lt_of_cell? _ _ hw113_5)).trans hw113_5), ((HB.out.cell (World.block_lt_of_cell? _ _ hw113_6)).trans hw113_6), ((HB.out.cell (World.block_lt_of_cell? _ _ hw113_7)).trans hw113_7), ((HB.out.cell (World.block_lt_of_cell? _ _ hw113_8)).trans hw113_8), ((HB.out.cell (World.block_lt_of_cell? _ _ hw115_0)).trans hw115_0), ((HB.out.cell (World.block_lt_of_cell? _ _ hw115_1)).trans hw115_1), ((HB.out.cell (World.block_lt_of_cell? _ _ hw115_2)).trans hw115_2), ((HB.out.cell (World.block_lt_of_cell? _ _ hw115_3)).trans hw115_3), ((HB.out.cell (World.block_lt_of_cell? _ _ hw115_4)).trans hw115_4), ((HB.out.cell (World.block_lt_of_cell? _ _ hw115_5)).trans hw115_5), ((HB.out.cell (World.block_lt_of_cell? _ _ hw115_6)).trans hw115_6), ((HB.out.cell (World.block_lt_of_cell? _ _ hw115_7)).trans hw115_7), ((HB.out.cell (World.block_lt_of_cell? _ _ hw115_8)).trans hw115_8), ((HB.out.cell (World.block_lt_of_cell? _ _ hw117_0)).trans hw117_0), ((HB.out.cell (World.block_lt_of_cell? _ _ hw117_1)).trans hw117_1), ((HB.out.cell (World.block_lt_of_cell? _ _ hw117_2)).trans hw117_2), ((HB.out.cell (World.block_lt_of_cell? _ _ hw117_3)).trans hw117_3), ((HB.out.cell (World.block_lt_of_cell? _ _ hw117_4)).trans hw117_4), ((HB.out.cell (World.block_lt_of_cell? _ _ hw117_5)).trans hw117_5), ((HB.out.cell (World.block_lt_of_cell? _ _ hw117_6)).trans hw117_6), ((HB.out.cell (World.block_lt_of_cell? _ _ hw117_7)).trans hw117_7), ((HB.out.cell (World.block_lt_of_cell? _ _ hw117_8)).trans hw117_8), ((HB.out.cell (World.block_lt_of_cell? _ _ hw118_0)).trans hw118_0), ((HB.out.cell (World.block_lt_of_cell? _ _ hw118_1)).trans hw118_1), ((HB.out.cell (World.block_lt_of_cell? _ _ hw118_2)).trans hw118_2), ((HB.out.cell (World.block_lt_of_cell? _ _ hw118_3)).trans hw118_3), ((HB.out.cell (World.block_lt_of_cell? _ _ hw118_4)).trans hw118_4), ((HB.out.cell (World.block_lt_of_cell? _ _ hw118_5)).trans hw118_5), ((HB.out.cell (World.block_lt_of_cell? _ _ hw118_6)).trans hw118_6), ((HB.out.cell (World.block_lt_of_cell? _ _ hw118_7)).trans hw118_7), ((HB.out.cell (World.block_lt_of_cell? _ _ hw118_8)).trans hw118_8)⟩ (fun hHeld => ?_); refine with_tabW spec_RibRight.tab6 spec_RibRight.bits6 (fun HT_ HW_ => ?_)
                        generalize wr.drew = w15 at HB hx113_0 hx113_1 hx113_2 hx113_3 hx113_4 hx113_5 hx113_6 hx113_7 hx113_8 hx115_0 hx115_1 hx115_2 hx115_3 hx115_4 hx115_5 hx115_6 hx115_7 hx115_8 hx117_0 hx117_1 hx117_2 hx117_3 hx117_4 hx117_5 hx117_6 hx117_7 hx117_8 hx118_0 hx118_1 hx118_2 hx118_3 hx118_4 hx118_5 hx118_6 hx118_7 hx118_8 hHeld ⊢
                        refine pure_ (i := 0) (N := some 13) (v := ?_) (a' := ?_) #[true, false, false, false, false, false, false, false, false, false, false, false, false, false, false, false, false, false, false, false, false, false, false, false, false, false, false, false, false, false, false, false, false] rfl rfl (any_of HT_.out (by kernel_rfl)) (fun _ _ _ h => h) (Or.inl ⟨by rfl, ?_⟩) ?_ ?_
                        rotate_left
                        · intro w'
                          go_simp
                          with_reducible rfl
                        rotate_left
                        · simp only [Act.put, List.setIfInBounds_toArray, List.set_cons_zero, List.set_cons_succ, i64_w, i32_w]
                          rfl
                        refine pure_ (i := 1) (N := some 14) (v := ?_) (a' := ?_) #[true, true, false, false, false, false, false, false, false, false, false, false, false, false, false, false, false, false, false, false, false, false, false, false, false, false, false, false, false, false, false, false, false] rfl rfl (any_of HT_.out (by kernel_rfl)) (fun _ _ _ h => h) (Or.inl ⟨by rfl, ?_⟩) ?_ ?_
                        rotate_left
                        · intro w'
                          go_simp
                          with_reducible rfl
                        rotate_left
                        · simp only [Act.put, List.setIfInBounds_toArray, List.set_cons_zero, List.set_cons_succ, i64_w, i32_w]
                          rfl
                        refine pure_ (i := 2) (N := some 15) (v := ?_) (a' := ?_) #[true, true, true, false, false, false, false, false, false, false, false, false, false, false, false, false, false, false, false, false, false, false, false, false, false, false, false, false, false, false, false, false, false] rfl rfl (any_of HT_.out (by kernel_rfl)) (fun _ _ _ h => h) (Or.inl ⟨by rfl, ?_⟩) ?_ ?_
                        rotate_left
                        · intro w'
                          go_simp
                          with_reducible rfl
                        rotate_left
                        · simp only [Act.put, List.setIfInBounds_toArray, List.set_cons_zero, List.set_cons_succ, i64_w, i32_w]
                          rfl
                        refine pure_ (i := 3) (N := some 16) (v := ?_) (a' := ?_) #[true, true, true, true, false, false, false, false, false, false, false, false, false, false, false, false, false, false, false, false, false, false, false, false, false, false, false, false, false, false, false, false, false] rfl rfl (any_of HT_.out (by kernel_rfl)) (fun _ _ _ h => h) (Or.inl ⟨by rfl, ?_⟩) ?_ ?_
                        rotate_left
                        · intro w'
                          go_simp
                          with_reducible rfl
                        rotate_left
                        · simp only [Act.put, List.setIfInBounds_toArray, List.set_cons_zero, List.set_cons_succ, i64_w, i32_w]
                          rfl
                        refine take_ (i := 4) (N := some 17) (v := ?_) (a' := ?_) #[true, true, true, true, true, false, false, false, false, false, false, false, false, false, false, false, false, false, false, false, false, false, false, false, false, false, false, false, false, false, false, false, false] rfl rfl (take_ofW HT_.out HW_.out (by kernel_rfl)) (fun _ _ _ h => h) (Or.inl ⟨by rfl, ?_⟩) hHeld ?_ ?_
                        rotate_left
                        · rintro w' ⟨s0, s1, s2, s3, s4, s5, s6, s7, s8, s9, s10, s11, s12, s13, s14, s15, s16, s17, s18, s19, s20, s21, s22, s23, s24, s25, s26, s27, s28, s29, s30, s31, s32, s33, s34, s35⟩
                          go_simp
                          with_reducible rfl
                        rotate_left
                        · simp only [Act.put, List.setIfInBounds_toArray, List.set_cons_zero, List.set_cons_succ, i64_w, i32_w]
                          rfl
                        refine one_ (i := 5) (N := some 18) #[true, true, true, true, true, true, false, false, false, false, false, false, false, false, false, false, false, false, false, false, false, false, false, false, false, false, false, false, false, false, false, false, false] rfl rfl (one_of HT_.out (by kernel_rfl)) (by decide) (fun K hK => ?_)
                        refine goes_ Try.func120 (by kernel_rfl) rfl #[.int .i64 ((rd_T135 l0 x3_1).f0)] (by rfl) rfl rfl (by (try simp only [List.map_toArray, List.map_cons, List.map_nil]); first | done | rfl | (simp only [List.length_drop, List.length_take]; rfl)) ?_
                        with_reducible refine (spec_l06Peer.calls ((rd_T135 l0 x3_1).f0) true _ A5.out).mono ?_
                        rintro e w' ⟨rfl, ⟨nd, rfl⟩⟩
                        refine ⟨_, rfl, ?_⟩
                        refine hK.out _ _ ⟨((HB.out.cell (World.block_lt_of_cell? _ _ hw113_0)).trans hw113_0), ((HB.out.cell (World.block_lt_of_cell? _ _ hw113_1)).trans hw113_1), ((HB.out.cell (World.block_lt_of_cell? _ _ hw113_2)).trans hw113_2), ((HB.out.cell (World.block_lt_of_cell? _ _ hw113_3)).trans hw113_3), ((HB.out.cell (World.block_lt_of_cell? _ _ hw113_4)).trans hw113_4), ((HB.out.cell (World.block_lt_of_cell? _ _ hw113_5)).trans hw113_5), ((HB.out.cell (World.block_lt_of_cell? _ _ hw113_6)).trans hw113_6), ((HB.out.cell (World.block_lt_of_cell? _ _ hw113_7)).trans hw113_7), ((HB.out.cell (World.block_lt_of_cell? _ _ hw113_8)).trans hw113_8), ((HB.out.cell (World.block_lt_of_cell? _ _ hw115_0)).trans hw115_0), ((HB.out.cell (World.block_lt_of_cell? _ _ hw115_1)).trans hw115_1), ((HB.out.cell (World.block_lt_of_cell? _ _ hw115_2)).trans hw115_2), ((HB.out.cell (World.block_lt_of_cell? _ _ hw115_3)).trans hw115_3), ((HB.out.cell (World.block_lt_of_cell? _ _ hw115_4)).trans hw115_4), ((HB.out.cell (World.block_lt_of_cell? _ _ hw115_5)).trans hw115_5), ((HB.out.cell (World.block_lt_of_cell? _ _ hw115_6)).trans hw115_6), ((HB.out.cell (World.block_lt_of_cell? _ _ hw115_7)).trans hw115_7), ((HB.out.cell (World.block_lt_of_cell? _ _ hw115_8)).trans hw115_8), ((HB.out.cell (World.block_lt_of_cell? _ _ hw117_0)).trans hw117_0), ((HB.out.cell (World.block_lt_of_cell? _ _ hw117_1)).trans hw117_1), ((HB.out.cell (World.block_lt_of_cell? _ _ hw117_2)).trans hw117_2), ((HB.out.cell (World.block_lt_of_cell? _ _ hw117_3)).trans hw117_3), ((HB.out.cell (World.block_lt_of_cell? _ _ hw117_4)).trans hw117_4), ((HB.out.cell (World.block_lt_of_cell? _ _ hw117_5)).trans hw117_5), ((HB.out.cell (World.block_lt_of_cell? _ _ hw117_6)).trans hw117_6), ((HB.out.cell (World.block_lt_of_cell? _ _ hw117_7)).trans hw117_7), ((HB.out.cell (World.block_lt_of_cell? _ _ hw117_8)).trans hw117_8), ((HB.out.cell (World.block_lt_of_cell? _ _ hw118_0)).trans hw118_0), ((HB.out.cell (World.block_lt_of_cell? _ _ hw118_1)).trans hw118_1), ((HB.out.cell (World.block_lt_of_cell? _ _ hw118_2)).trans hw118_2), ((HB.out.cell (World.block_lt_of_cell? _ _ hw118_3)).trans hw118_3), ((HB.out.cell (World.block_lt_of_cell? _ _ hw118_4)).trans hw118_4), ((HB.out.cell (World.block_lt_of_cell? _ _ hw118_5)).trans hw118_5), ((HB.out.cell (World.block_lt_of_cell? _ _ hw118_6)).trans hw118_6), ((HB.out.cell (World.block_lt_of_cell? _ _ hw118_7)).trans hw118_7), ((HB.out.cell (World.block_lt_of_cell? _ _ hw118_8)).trans hw118_8)⟩ (fun hHeld => ?_)
                        clear hK K
                        refine norm_ (a' := ?_) ?_ ?_
                        rotate_left
                        · show Act.put _ (some 18) _ = _
                          simp only [Act.put, List.setIfInBounds_toArray, List.set_cons_zero, List.set_cons_succ, i64_w, i32_w]
                          rfl
                        refine pure_ (i := 6) (N := some 19) (v := ?_) (a' := ?_) #[true, true, true, true, true, true, true, false, false, false, false, false, false, false, false, false, false, false, false, false, false, false, false, false, false, false, false, false, false, false, false, false, false] rfl rfl (any_of HT_.out (by kernel_rfl)) (fun _ _ _ h => h) (Or.inl ⟨by rfl, ?_⟩) ?_ ?_
                        rotate_left
                        · intro w'
                          go_simp
                          with_reducible rfl
                        rotate_left
                        · simp only [Act.put, List.setIfInBounds_toArray, List.set_cons_zero, List.set_cons_succ, i64_w, i32_w]
                          rfl
                        refine pure_ (i := 7) (N := some 20) (v := ?_) (a' := ?_) #[true, true, true, true, true, true, true, true, false, false, false, false, false, false, false, false, false, false, false, false, false, false, false, false, false, false, false, false, false, false, false, false, false] rfl rfl (any_of HT_.out (by kernel_rfl)) (fun _ _ _ h => h) (Or.inl ⟨by rfl, ?_⟩) ?_ ?_
                        rotate_left
                        · intro w'
                          go_simp
                          with_reducible rfl
                        rotate_left
                        · simp only [Act.put, List.setIfInBounds_toArray, List.set_cons_zero, List.set_cons_succ, i64_w, i32_w]
                          rfl
                        refine pure_ (i := 8) (N := some 21) (v := ?_) (a' := ?_) #[true, true, true, true, true, true, true, true, true, false, false, false, false, false, false, false, false, false, false, false, false, false, false, false, false, false, false, false, false, false, false, false, false] rfl rfl (any_of HT_.out (by kernel_rfl)) (fun _ _ _ h => h) (Or.inl ⟨by rfl, ?_⟩) ?_ ?_
                        rotate_left
                        · intro w'
                          go_simp
                          with_reducible rfl
                        rotate_left
                        · simp only [Act.put, List.setIfInBounds_toArray, List.set_cons_zero, List.set_cons_succ, i64_w, i32_w]
                          rfl
                        refine pure_ (i := 9) (N := some 22) (v := ?_) (a' := ?_) #[true, true, true, true, true, true, true, true, true, true, false, false, false, false, false, false, false, false, false, false, false, false, false, false, false, false, false, false, false, false, false, false, false] rfl rfl (any_of HT_.out (by kernel_rfl)) (fun _ _ _ h => h) (Or.inl ⟨by rfl, ?_⟩) ?_ ?_
                        rotate_left
                        · intro w'
                          go_simp
                          with_reducible rfl
                        rotate_left
                        · simp only [Act.put, List.setIfInBounds_toArray, List.set_cons_zero, List.set_cons_succ, i64_w, i32_w]
                          rfl
                        refine pure_ (i := 10) (N := some 23) (v := ?_) (a' := ?_) #[true, true, true, true, true, true, true, true, true, true, true, false, false, false, false, false, false, false, false, false, false, false, false, false, false, false, false, false, false, false, false, false, false] rfl rfl (any_of HT_.out (by kernel_rfl)) (fun _ _ _ h => h) (Or.inl ⟨by rfl, ?_⟩) ?_ ?_
                        rotate_left
                        · intro w'
                          go_simp
                          with_reducible rfl
                        rotate_left
                        · simp only [Act.put, List.setIfInBounds_toArray, List.set_cons_zero, List.set_cons_succ, i64_w, i32_w]
                          rfl
                        refine pure_ (i := 11) (N := some 24) (v := ?_) (a' := ?_) #[true, true, true, true, true, true, true, true, true, true, true, true, false, false, false, false, false, false, false, false, false, false, false, false, false, false, false, false, false, false, false, false, false] rfl rfl (any_of HT_.out (by kernel_rfl)) (fun _ _ _ h => h) (Or.inl ⟨by rfl, ?_⟩) ?_ ?_
                        rotate_left
                        · intro w'
                          go_simp
                          with_reducible rfl
                        rotate_left
                        · simp only [Act.put, List.setIfInBounds_toArray, List.set_cons_zero, List.set_cons_succ, i64_w, i32_w]
                          rfl
                        refine take_ (i := 12) (N := some 25) (v := ?_) (a' := ?_) #[true, true, true, true, true, true, true, true, true, true, true, true, true, false, false, false, false, false, false, false, false, false, false, false, false, false, false, false, false, false, false, false, false] rfl rfl (take_ofW HT_.out HW_.out (by kernel_rfl)) (fun _ _ _ h => h) (Or.inl ⟨by rfl, ?_⟩) hHeld ?_ ?_
                        rotate_left
                        · rintro w' ⟨s0, s1, s2, s3, s4, s5, s6, s7, s8, s9, s10, s11, s12, s13, s14, s15, s16, s17, s18, s19, s20, s21, s22, s23, s24, s25, s26, s27, s28, s29, s30, s31, s32, s33, s34, s35⟩
                          go_simp
                          with_reducible rfl
                        rotate_left
                        · simp only [Act.put, List.setIfInBounds_toArray, List.set_cons_zero, List.set_cons_succ, i64_w, i32_w]
                          rfl
                        refine one_ (i := 13) (N := some 26) #[true, true, true, true, true, true, true, true, true, true, true, true, true, true, false, false, false, false, false, false, false, false, false, false, false, false, false, false, false, false, false, false, false] rfl rfl (one_of HT_.out (by kernel_rfl)) (by decide) (fun K hK => ?_)
                        refine goes_ Try.func101 (by kernel_rfl) rfl #[.agg #[.int .i64 ((rd_T135 l0 x3_1).f2.f0), .int .i64 ((rd_T135 l0 x3_1).f2.f1), .int .i64 ((rd_T135 l0 x3_1).f2.f2), .int .i64 ((rd_T135 l0 x3_1).f2.f3), .int .i64 ((rd_T135 l0 x3_1).f2.f4), .int .i64 ((rd_T135 l0 x3_1).f2.f5), .bool ((rd_T135 l0 x3_1).f2.f6)]] (by rfl) rfl rfl (by (try simp only [List.map_toArray, List.map_cons, List.map_nil]); first | done | rfl | (simp only [List.length_drop, List.length_take]; rfl)) ?_
                        with_reducible refine (spec_RouteRight.calls k1 ((rd_T135 l0 x3_1).f2.f0) ((rd_T135 l0 x3_1).f2.f1) ((rd_T135 l0 x3_1).f2.f2) ((rd_T135 l0 x3_1).f2.f3) ((rd_T135 l0 x3_1).f2.f4) ((rd_T135 l0 x3_1).f2.f5) ((rd_T135 l0 x3_1).f2.f6) true _ A7.out).mono ?_
                        rintro e w16 ⟨rfl, hb⟩
                        refine ⟨_, rfl, ?_⟩
                        have n0_ := Aside0.mk (below_step (by repeat (first | (with_reducible first | exact HB.out | apply below_alloc | apply pw_below_drewN | apply below_drew1) | exact HB.out)) hb)
                        clear HB
                        have HB := n0_
                        clear n0_
                        (try clear hb)
                        (try clear hb2)
                        (try clear hk)
                        (try clear hi)
                        refine hK.out _ _ ⟨((HB.out.cell (World.block_lt_of_cell? _ _ hw113_0)).trans hw113_0), ((HB.out.cell (World.block_lt_of_cell? _ _ hw113_1)).trans hw113_1), ((HB.out.cell (World.block_lt_of_cell? _ _ hw113_2)).trans hw113_2), ((HB.out.cell (World.block_lt_of_cell? _ _ hw113_3)).trans hw113_3), ((HB.out.cell (World.block_lt_of_cell? _ _ hw113_4)).trans hw113_4), ((HB.out.cell (World.block_lt_of_cell? _ _ hw113_5)).trans hw113_5), ((HB.out.cell (World.block_lt_of_cell? _ _ hw113_6)).trans hw113_6), ((HB.out.cell (World.block_lt_of_cell? _ _ hw113_7)).trans hw113_7), ((HB.out.cell (World.block_lt_of_cell? _ _ hw113_8)).trans hw113_8), ((HB.out.cell (World.block_lt_of_cell? _ _ hw115_0)).trans hw115_0), ((HB.out.cell (World.block_lt_of_cell? _ _ hw115_1)).trans hw115_1), ((HB.out.cell (World.block_lt_of_cell? _ _ hw115_2)).trans hw115_2), ((HB.out.cell (World.block_lt_of_cell? _ _ hw115_3)).trans hw115_3), ((HB.out.cell (World.block_lt_of_cell? _ _ hw115_4)).trans hw115_4), ((HB.out.cell (World.block_lt_of_cell? _ _ hw115_5)).trans hw115_5), ((HB.out.cell (World.block_lt_of_cell? _ _ hw115_6)).trans hw115_6), ((HB.out.cell (World.block_lt_of_cell? _ _ hw115_7)).trans hw115_7), ((HB.out.cell (World.block_lt_of_cell? _ _ hw115_8)).trans hw115_8), ((HB.out.cell (World.block_lt_of_cell? _ _ hw117_0)).trans hw117_0), ((HB.out.cell (World.block_lt_of_cell? _ _ hw117_1)).trans hw117_1), ((HB.out.cell (World.block_lt_of_cell? _ _ hw117_2)).trans hw117_2), ((HB.out.cell (World.block_lt_of_cell? _ _ hw117_3)).trans hw117_3), ((HB.out.cell (World.block_lt_of_cell? _ _ hw117_4)).trans hw117_4), ((HB.out.cell (World.block_lt_of_cell? _ _ hw117_5)).trans hw117_5), ((HB.out.cell (World.block_lt_of_cell? _ _ hw117_6)).trans hw117_6), ((HB.out.cell (World.block_lt_of_cell? _ _ hw117_7)).trans hw117_7), ((HB.out.cell (World.block_lt_of_cell? _ _ hw117_8)).trans hw117_8), ((HB.out.cell (World.block_lt_of_cell? _ _ hw118_0)).trans hw118_0), ((HB.out.cell (World.block_lt_of_cell? _ _ hw118_1)).trans hw118_1), ((HB.out.cell (World.block_lt_of_cell? _ _ hw118_2)).trans hw118_2), ((HB.out.cell (World.block_lt_of_cell? _ _ hw118_3)).trans hw118_3), ((HB.out.cell (World.block_lt_of_cell? _ _ hw118_4)).trans hw118_4), ((HB.out.cell (World.block_lt_of_cell? _ _ hw118_5)).trans hw118_5), ((HB.out.cell (World.block_lt_of_cell? _ _ hw118_6)).trans hw118_6), ((HB.out.cell (World.block_lt_of_cell? _ _ hw118_7)).trans hw118_7), ((HB.out.cell (World.block_lt_of_cell? _ _ hw118_8)).trans hw118_8)⟩ (fun hHeld => ?_)
                        clear hK K
                        refine norm_ (a' := ?_) ?_ ?_
                        rotate_left
                        · show Act.put _ (some 26) _ = _
                          simp only [Act.put, List.setIfInBounds_toArray, List.set_cons_zero, List.set_cons_succ, i64_w, i32_w]
                          rfl
                        refine pure_ (i := 14) (N := some 27) (v := ?_) (a' := ?_) #[true, true, true, true, true, true, true, true, true, true, true, true, true, true, true, false, false, false, false, false, false, false, false, false, false, false, false, false, false, false, false, false, false] rfl rfl (any_of HT_.out (by kernel_rfl)) (fun _ _ _ h => h) (Or.inl ⟨by rfl, ?_⟩) ?_ ?_
                        rotate_left
                        · intro w'
                          go_simp
                          with_reducible rfl
                        rotate_left
                        · simp only [Act.put, List.setIfInBounds_toArray, List.set_cons_zero, List.set_cons_succ, i64_w, i32_w]
                          rfl
                        refine pure_ (i := 15) (N := some 28) (v := ?_) (a' := ?_) #[true, true, true, true, true, true, true, true, true, true, true, true, true, true, true, true, false, false, false, false, false, false, false, false, false, false, false, false, false, false, false, false, false] rfl rfl (any_of HT_.out (by kernel_rfl)) (fun _ _ _ h => h) (Or.inl ⟨by rfl, ?_⟩) ?_ ?_
                        rotate_left
                        · intro w'
                          go_simp
                          with_reducible rfl
                        rotate_left
                        · simp only [Act.put, List.setIfInBounds_toArray, List.set_cons_zero, List.set_cons_succ, i64_w, i32_w]
                          rfl
                        refine pure_ (i := 16) (N := some 29) (v := ?_) (a' := ?_) #[true, true, true, true, true, true, true, true, true, true, true, true, true, true, true, true, true, false, false, false, false, false, false, false, false, false, false, false, false, false, false, false, false] rfl rfl (any_of HT_.out (by kernel_rfl)) (fun _ _ _ h => h) (Or.inl ⟨by rfl, ?_⟩) ?_ ?_
                        rotate_left
                        · intro w'
                          go_simp
                          with_reducible rfl
                        rotate_left
                        · simp only [Act.put, List.setIfInBounds_toArray, List.set_cons_zero, List.set_cons_succ, i64_w, i32_w]
                          rfl
                        refine pure_ (i := 17) (N := some 30) (v := ?_) (a' := ?_) #[true, true, true, true, true, true, true, true, true, true, true, true, true, true, true, true, true, true, false, false, false, false, false, false, false, false, false, false, false, false, false, false, false] rfl rfl (any_of HT_.out (by kernel_rfl)) (fun _ _ _ h => h) (Or.inl ⟨by rfl, ?_⟩) ?_ ?_
                        rotate_left
                        · intro w'
                          go_simp
                          with_reducible rfl
                        rotate_left
                        · simp only [Act.put, List.setIfInBounds_toArray, List.set_cons_zero, List.set_cons_succ, i64_w, i32_w]
                          rfl
                        refine pure_ (i := 18) (N := some 31) (v := ?_) (a' := ?_) #[true, true, true, true, true, true, true, true, true, true, true, true, true, true, true, true, true, true, true, false, false, false, false, false, false, false, false, false, false, false, false, false, false] rfl rfl (any_of HT_.out (by kernel_rfl)) (fun _ _ _ h => h) (Or.inl ⟨by rfl, ?_⟩) ?_ ?_
                        rotate_left
                        · intro w'
                          go_simp
                          with_reducible rfl
                        rotate_left
                        · simp only [Act.put, List.setIfInBounds_toArray, List.set_cons_zero, List.set_cons_succ, i64_w, i32_w]
                          rfl
                        refine pure_ (i := 19) (N := some 32) (v := ?_) (a' := ?_) #[true, true, true, true, true, true, true, true, true, true, true, true, true, true, true, true, true, true, true, true, false, false, false, false, false, false, false, false, false, false, false, false, false] rfl rfl (any_of HT_.out (by kernel_rfl)) (fun _ _ _ h => h) (Or.inl ⟨by rfl, ?_⟩) ?_ ?_
                        rotate_left
                        · intro w'
                          go_simp
                          with_reducible rfl
                        rotate_left
                        · simp only [Act.put, List.setIfInBounds_toArray, List.set_cons_zero, List.set_cons_succ, i64_w, i32_w]
                          rfl
                        refine pure_ (i := 20) (N := some 33) (v := ?_) (a' := ?_) #[true, true, true, true, true, true, true, true, true, true, true, true, true, true, true, true, true, true, true, true, true, false, false, false, false, false, false, false, false, false, false, false, false] rfl rfl (any_of HT_.out (by kernel_rfl)) (fun _ _ _ h => h) (Or.inl ⟨by rfl, ?_⟩) ?_ ?_
                        rotate_left
                        · intro w'
                          go_simp
                          with_reducible rfl
                        rotate_left
                        · simp only [Act.put, List.setIfInBounds_toArray, List.set_cons_zero, List.set_cons_succ, i64_w, i32_w]
                          rfl
                        refine pure_ (i := 21) (N := some 34) (v := ?_) (a' := ?_) #[true, true, true, true, true, true, true, true, true, true, true, true, true, true, true, true, true, true, true, true, true, true, false, false, false, false, false, false, false, false, false, false, false] rfl rfl (any_of HT_.out (by kernel_rfl)) (fun _ _ _ h => h) (Or.inl ⟨by rfl, ?_⟩) ?_ ?_
                        rotate_left
                        · intro w'
                          go_simp
                          with_reducible rfl
                        rotate_left
                        · simp only [Act.put, List.setIfInBounds_toArray, List.set_cons_zero, List.set_cons_succ, i64_w, i32_w]
                          rfl
                        refine pure_ (i := 22) (N := some 35) (v := ?_) (a' := ?_) #[true, true, true, true, true, true, true, true, true, true, true, true, true, true, true, true, true, true, true, true, true, true, true, false, false, false, false, false, false, false, false, false, false] rfl rfl (any_of HT_.out (by kernel_rfl)) (fun _ _ _ h => h) (Or.inl ⟨by rfl, ?_⟩) ?_ ?_
                        rotate_left
                        · intro w'
                          go_simp
                          with_reducible rfl
                        rotate_left
                        · simp only [Act.put, List.setIfInBounds_toArray, List.set_cons_zero, List.set_cons_succ, i64_w, i32_w]
                          rfl
                        refine pure_ (i := 23) (N := some 36) (v := ?_) (a' := ?_) #[true, true, true, true, true, true, true, true, true, true, true, true, true, true, true, true, true, true, true, true, true, true, true, true, false, false, false, false, false, false, false, false, false] rfl rfl (any_of HT_.out (by kernel_rfl)) (fun _ _ _ h => h) (Or.inl ⟨by rfl, ?_⟩) ?_ ?_
                        rotate_left
                        · intro w'
                          go_simp
                          with_reducible rfl
                        rotate_left
                        · simp only [Act.put, List.setIfInBounds_toArray, List.set_cons_zero, List.set_cons_succ, i64_w, i32_w]
                          rfl
                        refine pure_ (i := 25) (N := some 38) (v := ?_) (a' := ?_) #[true, true, true, true, true, true, true, true, true, true, true, true, true, true, true, true, true, true, true, true, true, true, true, true, false, true, false, false, false, false, false, false, false] rfl rfl (any_of HT_.out (by kernel_rfl)) (fun _ _ _ h => h) (Or.inl ⟨by rfl, ?_⟩) ?_ ?_
                        rotate_left
                        · intro w'
                          go_simp
                          with_reducible rfl
                        rotate_left
                        · simp only [Act.put, List.setIfInBounds_toArray, List.set_cons_zero, List.set_cons_succ, i64_w, i32_w]
                          rfl
                        refine pure_ (i := 26) (N := some 39) (v := ?_) (a' := ?_) #[true, true, true, true, true, true, true, true, true, true, true, true, true, true, true, true, true, true, true, true, true, true, true, true, false, true, true, false, false, false, false, false, false] rfl rfl (any_of HT_.out (by kernel_rfl)) (fun _ _ _ h => h) (Or.inl ⟨by rfl, ?_⟩) ?_ ?_
                        rotate_left
                        · intro w'
                          go_simp
                          with_reducible rfl
                        rotate_left
                        · simp only [Act.put, List.setIfInBounds_toArray, List.set_cons_zero, List.set_cons_succ, i64_w, i32_w]
                          rfl
                        refine pure_ (i := 27) (N := some 40) (v := ?_) (a' := ?_) #[true, true, true, true, true, true, true, true, true, true, true, true, true, true, true, true, true, true, true, true, true, true, true, true, false, true, true, true, false, false, false, false, false] rfl rfl (any_of HT_.out (by kernel_rfl)) (fun _ _ _ h => h) (Or.inl ⟨by rfl, ?_⟩) ?_ ?_
                        rotate_left
                        · intro w'
                          go_simp
                          with_reducible rfl
                        rotate_left
                        · simp only [Act.put, List.setIfInBounds_toArray, List.set_cons_zero, List.set_cons_succ, i64_w, i32_w]
                          rfl
                        refine take_ (i := 24) (N := some 37) (v := ?_) (a' := ?_) #[true, true, true, true, true, true, true, true, true, true, true, true, true, true, true, true, true, true, true, true, true, true, true, true, true, true, true, true, false, false, false, false, false] rfl rfl (take_ofW HT_.out HW_.out (by kernel_rfl)) (fun _ _ _ h => h) (Or.inl ⟨by rfl, ?_⟩) hHeld ?_ ?_
                        rotate_left
                        · rintro w' ⟨s0, s1, s2, s3, s4, s5, s6, s7, s8, s9, s10, s11, s12, s13, s14, s15, s16, s17, s18, s19, s20, s21, s22, s23, s24, s25, s26, s27, s28, s29, s30, s31, s32, s33, s34, s35⟩
                          go_simp
                          with_reducible rfl
                        rotate_left
                        · simp only [Act.put, List.setIfInBounds_toArray, List.set_cons_zero, List.set_cons_succ, i64_w, i32_w]
                          rfl
                        refine take_ (i := 28) (N := some 41) (v := ?_) (a' := ?_) #[true, true, true, true, true, true, true, true, true, true, true, true, true, true, true, true, true, true, true, true, true, true, true, true, true, true, true, true, true, false, false, false, false] rfl rfl (take_ofW HT_.out HW_.out (by kernel_rfl)) (fun _ _ _ h => h) (Or.inl ⟨by rfl, ?_⟩) hHeld ?_ ?_
                        rotate_left
                        · rintro w' ⟨s0, s1, s2, s3, s4, s5, s6, s7, s8, s9, s10, s11, s12, s13, s14, s15, s16, s17, s18, s19, s20, s21, s22, s23, s24, s25, s26, s27, s28, s29, s30, s31, s32, s33, s34, s35⟩
                          go_simp
                          with_reducible rfl
                        rotate_left
                        · simp only [Act.put, List.setIfInBounds_toArray, List.set_cons_zero, List.set_cons_succ, i64_w, i32_w]
                          rfl
                        refine one_ (i := 29) (N := some 42) #[true, true, true, true, true, true, true, true, true, true, true, true, true, true, true, true, true, true, true, true, true, true, true, true, true, true, true, true, true, true, false, false, false] rfl rfl (one_of HT_.out (by kernel_rfl)) (by decide) (fun K hK => ?_)
                        refine goes_ Try.func121 (by kernel_rfl) rfl #[.agg #[.int .i64 ((rd_T135 l0 (ji10)).f0), .bool ((rd_T135 l0 (ji10)).f1), .int .i64 ((rd_T135 l0 (ji10)).f2.f0), .int .i64 ((rd_T135 l0 (ji10)).f2.f1), .int .i64 ((rd_T135 l0 (ji10)).f2.f2), .int .i64 ((rd_T135 l0 (ji10)).f2.f3), .int .i64 ((rd_T135 l0 (ji10)).f2.f4), .int .i64 ((rd_T135 l0 (ji10)).f2.f5), .bool ((rd_T135 l0 (ji10)).f2.f6)], .agg #[.int .i64 ((rd_T135 l0 x3_1).f0), .bool ((rd_T135 l0 x3_1).f1), .int .i64 ((rd_T135 l0 x3_1).f2.f0), .int .i64 ((rd_T135 l0 x3_1).f2.f1), .int .i64 ((rd_T135 l0 x3_1).f2.f2), .int .i64 ((rd_T135 l0 x3_1).f2.f3), .int .i64 ((rd_T135 l0 x3_1).f2.f4), .int .i64 ((rd_T135 l0 x3_1).f2.f5), .bool ((rd_T135 l0 x3_1).f2.f6)]] (by rfl) rfl rfl (by (try simp only [List.map_toArray, List.map_cons, List.map_nil]); first | done | (simp only [hji10]; rfl) | rfl | (simp only [List.length_drop, List.length_take]; rfl)) ?_
                        with_reducible refine (spec_l06Less.calls ((rd_T135 l0 (ji10)).f0) ((rd_T135 l0 (ji10)).f1) ((rd_T135 l0 (ji10)).f2.f0) ((rd_T135 l0 (ji10)).f2.f1) ((rd_T135 l0 (ji10)).f2.f2) ((rd_T135 l0 (ji10)).f2.f3) ((rd_T135 l0 (ji10)).f2.f4) ((rd_T135 l0 (ji10)).f2.f5) ((rd_T135 l0 (ji10)).f2.f6) ((rd_T135 l0 x3_1).f0) ((rd_T135 l0 x3_1).f1) ((rd_T135 l0 x3_1).f2.f0) ((rd_T135 l0 x3_1).f2.f1) ((rd_T135 l0 x3_1).f2.f2) ((rd_T135 l0 x3_1).f2.f3) ((rd_T135 l0 x3_1).f2.f4) ((rd_T135 l0 x3_1).f2.f5) ((rd_T135 l0 x3_1).f2.f6) true _ A13.out).mono ?_
                        rintro e w17 ⟨rfl, hb⟩
                        refine ⟨_, rfl, ?_⟩
                        have n0_ := Aside0.mk (below_step (by repeat (first | (with_reducible first | exact HB.out | apply below_alloc | apply pw_below_drewN | apply below_drew1) | exact HB.out)) hb)
                        clear HB
                        have HB := n0_
                        clear n0_
                        (try clear hb)
                        (try clear hb2)
                        (try clear hk)
                        (try clear hi)
                        refine hK.out _ _ ⟨((HB.out.cell (World.block_lt_of_cell? _ _ hw113_0)).trans hw113_0), ((HB.out.cell (World.block_lt_of_cell? _ _ hw113_1)).trans hw113_1), ((HB.out.cell (World.block_lt_of_cell? _ _ hw113_2)).trans hw113_2), ((HB.out.cell (World.block_lt_of_cell? _ _ hw113_3)).trans hw113_3), ((HB.out.cell (World.block_lt_of_cell? _ _ hw113_4)).trans hw113_4), ((HB.out.cell (World.block_lt_of_cell? _ _ hw113_5)).trans hw113_5), ((HB.out.cell (World.block_lt_of_cell? _ _ hw113_6)).trans hw113_6), ((HB.out.cell (World.block_lt_of_cell? _ _ hw113_7)).trans hw113_7), ((HB.out.cell (World.block_lt_of_cell? _ _ hw113_8)).trans hw113_8), ((HB.out.cell (World.block_lt_of_cell? _ _ hw115_0)).trans hw115_0), ((HB.out.cell (World.block_lt_of_cell? _ _ hw115_1)).trans hw115_1), ((HB.out.cell (World.block_lt_of_cell? _ _ hw115_2)).trans hw115_2), ((HB.out.cell (World.block_lt_of_cell? _ _ hw115_3)).trans hw115_3), ((HB.out.cell (World.block_lt_of_cell? _ _ hw115_4)).trans hw115_4), ((HB.out.cell (World.block_lt_of_cell? _ _ hw115_5)).trans hw115_5), ((HB.out.cell (World.block_lt_of_cell? _ _ hw115_6)).trans hw115_6), ((HB.out.cell (World.block_lt_of_cell? _ _ hw115_7)).trans hw115_7), ((HB.out.cell (World.block_lt_of_cell? _ _ hw115_8)).trans hw115_8), ((HB.out.cell (World.block_lt_of_cell? _ _ hw117_0)).trans hw117_0), ((HB.out.cell (World.block_lt_of_cell? _ _ hw117_1)).trans hw117_1), ((HB.out.cell (World.block_lt_of_cell? _ _ hw117_2)).trans hw117_2), ((HB.out.cell (World.block_lt_of_cell? _ _ hw117_3)).trans hw117_3), ((HB.out.cell (World.block_lt_of_cell? _ _ hw117_4)).trans hw117_4), ((HB.out.cell (World.block_lt_of_cell? _ _ hw117_5)).trans hw117_5), ((HB.out.cell (World.block_lt_of_cell? _ _ hw117_6)).trans hw117_6), ((HB.out.cell (World.block_lt_of_cell? _ _ hw117_7)).trans hw117_7), ((HB.out.cell (World.block_lt_of_cell? _ _ hw117_8)).trans hw117_8), ((HB.out.cell (World.block_lt_of_cell? _ _ hw118_0)).trans hw118_0), ((HB.out.cell (World.block_lt_of_cell? _ _ hw118_1)).trans hw118_1), ((HB.out.cell (World.block_lt_of_cell? _ _ hw118_2)).trans hw118_2), ((HB.out.cell (World.block_lt_of_cell? _ _ hw118_3)).trans hw118_3), ((HB.out.cell (World.block_lt_of_cell? _ _ hw118_4)).trans hw118_4), ((HB.out.cell (World.block_lt_of_cell? _ _ hw118_5)).trans hw118_5), ((HB.out.cell (World.block_lt_of_cell? _ _ hw118_6)).trans hw118_6), ((HB.out.cell (World.block_lt_of_cell? _ _ hw118_7)).trans hw118_7), ((HB.out.cell (World.block_lt_of_cell? _ _ hw118_8)).trans hw118_8)⟩ (fun hHeld => ?_)
                        clear hK K
                        refine norm_ (a' := ?_) ?_ ?_
                        rotate_left
                        · show Act.put _ (some 42) _ = _
                          simp only [Act.put, List.setIfInBounds_toArray, List.set_cons_zero, List.set_cons_succ, i64_w, i32_w]
                          rfl
                        refine pure_ (i := 30) (N := some 43) (v := ?_) (a' := ?_) #[true, true, true, true, true, true, true, true, true, true, true, true, true, true, true, true, true, true, true, true, true, true, true, true, true, true, true, true, true, true, true, false, false] rfl rfl (any_of HT_.out (by kernel_rfl)) (fun _ _ _ h => h) (Or.inl ⟨by rfl, ?_⟩) ?_ ?_
                        rotate_left
                        · intro w'
                          go_simp
                          with_reducible rfl
                        rotate_left
                        · simp only [Act.put, List.setIfInBounds_toArray, List.set_cons_zero, List.set_cons_succ, i64_w, i32_w]
                          rfl
                        refine pure_ (i := 31) (N := some 44) (v := ?_) (a' := ?_) #[true, true, true, true, true, true, true, true, true, true, true, true, true, true, true, true, true, true, true, true, true, true, true, true, true, true, true, true, true, true, true, true, false] rfl rfl (any_of HT_.out (by kernel_rfl)) (fun _ _ _ h => h) (Or.inl ⟨by rfl, ?_⟩) ?_ ?_
                        rotate_left
                        · intro w'
                          go_simp
                          with_reducible rfl
                        rotate_left
                        · simp only [Act.put, List.setIfInBounds_toArray, List.set_cons_zero, List.set_cons_succ, i64_w, i32_w]
                          rfl
                        refine pure_ (i := 32) (N := some 45) (v := ?_) (a' := ?_) #[true, true, true, true, true, true, true, true, true, true, true, true, true, true, true, true, true, true, true, true, true, true, true, true, true, true, true, true, true, true, true, true, true] rfl rfl (any_of HT_.out (by kernel_rfl)) (fun _ _ _ h => h) (Or.inl ⟨by rfl, ?_⟩) ?_ ?_
                        rotate_left
                        · intro w'
                          go_simp
                          with_reducible rfl
                        rotate_left
                        · simp only [Act.put, List.setIfInBounds_toArray, List.set_cons_zero, List.set_cons_succ, i64_w, i32_w]
                          rfl
                        refine done_ (done_of HT_.out (by kernel_rfl)) ?_
                        try go_wp2
                        go_roundg k1
                        case measure => have := HK1.out; omega
                        case rel => exact ⟨(wrap64 (x3_1 + 1)), (by first | rfl | (simp; done) | (simp [*]; done)), H', ⟨by have := HK1.out; omega⟩, ⟨by repeat (first | (with_reducible first | exact HB.out | apply below_alloc | apply pw_below_drewN | apply below_drew1) | exact HB.out)⟩⟩
                      · replace c14 := Bool.eq_false_iff.mpr c14
                        subst c14
                        have H1 : (some false) = some r := by rw [if_neg (show ¬ (false = true) by decide)] at H; exact H
                        clear H
                        have H := H1
                        clear H1
                        obtain rfl := Option.some.inj H
                        try go_wp2
                        have n0_ := Aside0.mk (below_drew1 HB.out)
                        clear HB
                        have HB := n0_
                        clear n0_
                        have p113 : 0 ≤ (x3_1 : Int) := of_decide_eq_true (by first | (with_reducible assumption) | assumption)
                        have q113 : x3_1 < (l0.length : Int) := of_decide_eq_true (by first | (with_reducible assumption) | assumption)
                        obtain ⟨ad113, e113, hx113_0, hx113_1, hx113_2, hx113_3, hx113_4, hx113_5, hx113_6, hx113_7, hx113_8⟩ := at_T135 HR0.out x3_1 p113 q113
                        have hw113_8 := hx113_8
                        have hw113_7 := hx113_7
                        have hw113_6 := hx113_6
                        have hw113_5 := hx113_5
                        have hw113_4 := hx113_4
                        have hw113_3 := hx113_3
                        have hw113_2 := hx113_2
                        have hw113_1 := hx113_1
                        have hw113_0 := hx113_0
                        cases e113
                        replace hx113_0 := (HB.out.cell (World.block_lt_of_cell? w _ hx113_0)).trans hx113_0
                        replace hx113_1 := (HB.out.cell (World.block_lt_of_cell? w _ hx113_1)).trans hx113_1
                        replace hx113_2 := (HB.out.cell (World.block_lt_of_cell? w _ hx113_2)).trans hx113_2
                        replace hx113_3 := (HB.out.cell (World.block_lt_of_cell? w _ hx113_3)).trans hx113_3
                        replace hx113_4 := (HB.out.cell (World.block_lt_of_cell? w _ hx113_4)).trans hx113_4
                        replace hx113_5 := (HB.out.cell (World.block_lt_of_cell? w _ hx113_5)).trans hx113_5
                        replace hx113_6 := (HB.out.cell (World.block_lt_of_cell? w _ hx113_6)).trans hx113_6
                        replace hx113_7 := (HB.out.cell (World.block_lt_of_cell? w _ hx113_7)).trans hx113_7
                        replace hx113_8 := (HB.out.cell (World.block_lt_of_cell? w _ hx113_8)).trans hx113_8
                        replace p113 := eq_true p113
                        replace q113 := eq_true q113
                        have p115 : 0 ≤ (x3_1 : Int) := of_decide_eq_true (by first | (with_reducible assumption) | assumption)
                        have q115 : x3_1 < (l0.length : Int) := of_decide_eq_true (by first | (with_reducible assumption) | assumption)
                        obtain ⟨ad115, e115, hx115_0, hx115_1, hx115_2, hx115_3, hx115_4, hx115_5, hx115_6, hx115_7, hx115_8⟩ := at_T135 HR0.out x3_1 p115 q115
                        have hw115_8 := hx115_8
                        have hw115_7 := hx115_7
                        have hw115_6 := hx115_6
                        have hw115_5 := hx115_5
                        have hw115_4 := hx115_4
                        have hw115_3 := hx115_3
                        have hw115_2 := hx115_2
                        have hw115_1 := hx115_1
                        have hw115_0 := hx115_0
                        obtain rfl : ad113 = ad115 := (by injection e115)
                        replace hx115_0 := (HB.out.cell (World.block_lt_of_cell? w _ hx115_0)).trans hx115_0
                        replace hx115_1 := (HB.out.cell (World.block_lt_of_cell? w _ hx115_1)).trans hx115_1
                        replace hx115_2 := (HB.out.cell (World.block_lt_of_cell? w _ hx115_2)).trans hx115_2
                        replace hx115_3 := (HB.out.cell (World.block_lt_of_cell? w _ hx115_3)).trans hx115_3
                        replace hx115_4 := (HB.out.cell (World.block_lt_of_cell? w _ hx115_4)).trans hx115_4
                        replace hx115_5 := (HB.out.cell (World.block_lt_of_cell? w _ hx115_5)).trans hx115_5
                        replace hx115_6 := (HB.out.cell (World.block_lt_of_cell? w _ hx115_6)).trans hx115_6
                        replace hx115_7 := (HB.out.cell (World.block_lt_of_cell? w _ hx115_7)).trans hx115_7
                        replace hx115_8 := (HB.out.cell (World.block_lt_of_cell? w _ hx115_8)).trans hx115_8
                        replace p115 := eq_true p115
                        replace q115 := eq_true q115
                        have p117 : 0 ≤ ((ji10) : Int) := of_decide_eq_true (by first | (with_reducible assumption) | assumption)
                        have q117 : (ji10) < (l0.length : Int) := of_decide_eq_true (by first | (with_reducible assumption) | assumption)
                        obtain ⟨ad117, e117, hx117_0, hx117_1, hx117_2, hx117_3, hx117_4, hx117_5, hx117_6, hx117_7, hx117_8⟩ := at_T135 HR0.out (ji10) p117 q117
                        have hw117_8 := hx117_8
                        have hw117_7 := hx117_7
                        have hw117_6 := hx117_6
                        have hw117_5 := hx117_5
                        have hw117_4 := hx117_4
                        have hw117_3 := hx117_3
                        have hw117_2 := hx117_2
                        have hw117_1 := hx117_1
                        have hw117_0 := hx117_0
                        obtain rfl : ad113 = ad117 := (by injection e117)
                        replace hx117_0 := (HB.out.cell (World.block_lt_of_cell? w _ hx117_0)).trans hx117_0
                        replace hx117_1 := (HB.out.cell (World.block_lt_of_cell? w _ hx117_1)).trans hx117_1
                        replace hx117_2 := (HB.out.cell (World.block_lt_of_cell? w _ hx117_2)).trans hx117_2
                        replace hx117_3 := (HB.out.cell (World.block_lt_of_cell? w _ hx117_3)).trans hx117_3
                        replace hx117_4 := (HB.out.cell (World.block_lt_of_cell? w _ hx117_4)).trans hx117_4
                        replace hx117_5 := (HB.out.cell (World.block_lt_of_cell? w _ hx117_5)).trans hx117_5
                        replace hx117_6 := (HB.out.cell (World.block_lt_of_cell? w _ hx117_6)).trans hx117_6
                        replace hx117_7 := (HB.out.cell (World.block_lt_of_cell? w _ hx117_7)).trans hx117_7
                        replace hx117_8 := (HB.out.cell (World.block_lt_of_cell? w _ hx117_8)).trans hx117_8
                        replace p117 := eq_true p117
                        replace q117 := eq_true q117
                        have p118 : 0 ≤ (x3_1 : Int) := of_decide_eq_true (by first | (with_reducible assumption) | assumption)
                        have q118 : x3_1 < (l0.length : Int) := of_decide_eq_true (by first | (with_reducible assumption) | assumption)
                        obtain ⟨ad118, e118, hx118_0, hx118_1, hx118_2, hx118_3, hx118_4, hx118_5, hx118_6, hx118_7, hx118_8⟩ := at_T135 HR0.out x3_1 p118 q118
                        have hw118_8 := hx118_8
                        have hw118_7 := hx118_7
                        have hw118_6 := hx118_6
                        have hw118_5 := hx118_5
                        have hw118_4 := hx118_4
                        have hw118_3 := hx118_3
                        have hw118_2 := hx118_2
                        have hw118_1 := hx118_1
                        have hw118_0 := hx118_0
                        obtain rfl : ad113 = ad118 := (by injection e118)
                        replace hx118_0 := (HB.out.cell (World.block_lt_of_cell? w _ hx118_0)).trans hx118_0
                        replace hx118_1 := (HB.out.cell (World.block_lt_of_cell? w _ hx118_1)).trans hx118_1
                        replace hx118_2 := (HB.out.cell (World.block_lt_of_cell? w _ hx118_2)).trans hx118_2
                        replace hx118_3 := (HB.out.cell (World.block_lt_of_cell? w _ hx118_3)).trans hx118_3
                        replace hx118_4 := (HB.out.cell (World.block_lt_of_cell? w _ hx118_4)).trans hx118_4
                        replace hx118_5 := (HB.out.cell (World.block_lt_of_cell? w _ hx118_5)).trans hx118_5
                        replace hx118_6 := (HB.out.cell (World.block_lt_of_cell? w _ hx118_6)).trans hx118_6
                        replace hx118_7 := (HB.out.cell (World.block_lt_of_cell? w _ hx118_7)).trans hx118_7
                        replace hx118_8 := (HB.out.cell (World.block_lt_of_cell? w _ hx118_8)).trans hx118_8
                        replace p118 := eq_true p118
                        replace q118 := eq_true q118
                        refine start_ (n := 33) (S := fun w' => w'.cell? (ad113.add ((x3_1).toNat * 9)) = some (.int .i64 ((rd_T135 l0 x3_1).f0)) ∧ w'.cell? ⟨(ad113.add ((x3_1).toNat * 9)).block, (ad113.add ((x3_1).toNat * 9)).off + 1, none⟩ = some (.bool ((rd_T135 l0 x3_1).f1)) ∧ w'.cell? ⟨(ad113.add ((x3_1).toNat * 9)).block, (ad113.add ((x3_1).toNat * 9)).off + 2, none⟩ = some (.int .i64 ((rd_T135 l0 x3_1).f2.f0)) ∧ w'.cell? ⟨(ad113.add ((x3_1).toNat * 9)).block, (ad113.add ((x3_1).toNat * 9)).off + 3, none⟩ = some (.int .i64 ((rd_T135 l0 x3_1).f2.f1)) ∧ w'.cell? ⟨(ad113.add ((x3_1).toNat * 9)).block, (ad113.add ((x3_1).toNat * 9)).off + 4, none⟩ = some (.int .i64 ((rd_T135 l0 x3_1).f2.f2)) ∧ w'.cell? ⟨(ad113.add ((x3_1).toNat * 9)).block, (ad113.add ((x3_1).toNat * 9)).off + 5, none⟩ = some (.int .i64 ((rd_T135 l0 x3_1).f2.f3)) ∧ w'.cell? ⟨(ad113.add ((x3_1).toNat * 9)).block, (ad113.add ((x3_1).toNat * 9)).off + 6, none⟩ = some (.int .i64 ((rd_T135 l0 x3_1).f2.f4)) ∧ w'.cell? ⟨(ad113.add ((x3_1).toNat * 9)).block, (ad113.add ((x3_1).toNat * 9)).off + 7, none⟩ = some (.int .i64 ((rd_T135 l0 x3_1).f2.f5)) ∧ w'.cell? ⟨(ad113.add ((x3_1).toNat * 9)).block, (ad113.add ((x3_1).toNat * 9)).off + 8, none⟩ = some (.bool ((rd_T135 l0 x3_1).f2.f6)) ∧ w'.cell? (ad113.add ((x3_1).toNat * 9)) = some (.int .i64 ((rd_T135 l0 x3_1).f0)) ∧ w'.cell? ⟨(ad113.add ((x3_1).toNat * 9)).block, (ad113.add ((x3_1).toNat * 9)).off + 1, none⟩ = some (.bool ((rd_T135 l0 x3_1).f1)) ∧ w'.cell? ⟨(ad113.add ((x3_1).toNat * 9)).block, (ad113.add ((x3_1).toNat * 9)).off + 2, none⟩ = some (.int .i64 ((rd_T135 l0 x3_1).f2.f0)) ∧ w'.cell? ⟨(ad113.add ((x3_1).toNat * 9)).block, (ad113.add ((x3_1).toNat * 9)).off + 3, none⟩ = some (.int .i64 ((rd_T135 l0 x3_1).f2.f1)) ∧ w'.cell? ⟨(ad113.add ((x3_1).toNat * 9)).block, (ad113.add ((x3_1).toNat * 9)).off + 4, none⟩ = some (.int .i64 ((rd_T135 l0 x3_1).f2.f2)) ∧ w'.cell? ⟨(ad113.add ((x3_1).toNat * 9)).block, (ad113.add ((x3_1).toNat * 9)).off + 5, none⟩ = some (.int .i64 ((rd_T135 l0 x3_1).f2.f3)) ∧ w'.cell? ⟨(ad113.add ((x3_1).toNat * 9)).block, (ad113.add ((x3_1).toNat * 9)).off + 6, none⟩ = some (.int .i64 ((rd_T135 l0 x3_1).f2.f4)) ∧ w'.cell? ⟨(ad113.add ((x3_1).toNat * 9)).block, (ad113.add ((x3_1).toNat * 9)).off + 7, none⟩ = some (.int .i64 ((rd_T135 l0 x3_1).f2.f5)) ∧ w'.cell? ⟨(ad113.add ((x3_1).toNat * 9)).block, (ad113.add ((x3_1).toNat * 9)).off + 8, none⟩ = some (.bool ((rd_T135 l0 x3_1).f2.f6)) ∧ w'.cell? (ad113.add (((ji10)).toNat * 9)) = some (.int .i64 ((rd_T135 l0 (ji10)).f0)) ∧ w'.cell? ⟨(ad113.add (((ji10)).toNat * 9)).block, (ad113.add (((ji10)).toNat * 9)).off + 1, none⟩ = some (.bool ((rd_T135 l0 (ji10)).f1)) ∧ w'.cell? ⟨(ad113.add (((ji10)).toNat * 9)).block, (ad113.add (((ji10)).toNat * 9)).off + 2, none⟩ = some (.int .i64 ((rd_T135 l0 (ji10)).f2.f0)) ∧ w'.cell? ⟨(ad113.add (((ji10)).toNat * 9)).block, (ad113.add (((ji10)).toNat * 9)).off + 3, none⟩ = some (.int .i64 ((rd_T135 l0 (ji10)).f2.f1)) ∧ w'.cell? ⟨(ad113.add (((ji10)).toNat * 9)).block, (ad113.add (((ji10)).toNat * 9)).off + 4, none⟩ = some (.int .i64 ((rd_T135 l0 (ji10)).f2.f2)) ∧ w'.cell? ⟨(ad113.add (((ji10)).toNat * 9)).block, (ad113.add (((ji10)).toNat * 9)).off + 5, none⟩ = some (.int .i64 ((rd_T135 l0 (ji10)).f2.f3)) ∧ w'.cell? ⟨(ad113.add (((ji10)).toNat * 9)).block, (ad113.add (((ji10)).toNat * 9)).off + 6, none⟩ = some (.int .i64 ((rd_T135 l0 (ji10)).f2.f4)) ∧ w'.cell? ⟨(ad113.add (((ji10)).toNat * 9)).block, (ad113.add (((ji10)).toNat * 9)).off + 7, none⟩ = some (.int .i64 ((rd_T135 l0 (ji10)).f2.f5)) ∧ w'.cell? ⟨(ad113.add (((ji10)).toNat * 9)).block, (ad113.add (((ji10)).toNat * 9)).off + 8, none⟩ = some (.bool ((rd_T135 l0 (ji10)).f2.f6)) ∧ w'.cell? (ad113.add ((x3_1).toNat * 9)) = some (.int .i64 ((rd_T135 l0 x3_1).f0)) ∧ w'.cell? ⟨(ad113.add ((x3_1).toNat * 9)).block, (ad113.add ((x3_1).toNat * 9)).off + 1, none⟩ = some (.bool ((rd_T135 l0 x3_1).f1)) ∧ w'.cell? ⟨(ad113.add ((x3_1).toNat * 9)).block, (ad113.add ((x3_1).toNat * 9)).off + 2, none⟩ = some (.int .i64 ((rd_T135 l0 x3_1).f2.f0)) ∧ w'.cell? ⟨(ad113.add ((x3_1).toNat * 9)).block, (ad113.add ((x3_1).toNat * 9)).off + 3, none⟩ = some (.int .i64 ((rd_T135 l0 x3_1).f2.f1)) ∧ w'.cell? ⟨(ad113.add ((x3_1).toNat * 9)).block, (ad113.add ((x3_1).toNat * 9)).off + 4, none⟩ = some (.int .i64 ((rd_T135 l0 x3_1).f2.f2)) ∧ w'.cell? ⟨(ad113.add ((x3_1).toNat * 9)).block, (ad113.add ((x3_1).toNat * 9)).off + 5, none⟩ = some (.int .i64 ((rd_T135 l0 x3_1).f2.f3)) ∧ w'.cell? ⟨(ad113.add ((x3_1).toNat * 9)).block, (ad113.add ((x3_1).toNat * 9)).off + 6, none⟩ = some (.int .i64 ((rd_T135 l0 x3_1).f2.f4)) ∧ w'.cell? ⟨(ad113.add ((x3_1).toNat * 9)).block, (ad113.add ((x3_1).toNat * 9)).off + 7, none⟩ = some (.int .i64 ((rd_T135 l0 x3_1).f2.f5)) ∧ w'.cell? ⟨(ad113.add ((x3_1).toNat * 9)).block, (ad113.add ((x3_1).toNat * 9)).off + 8, none⟩ = some (.bool ((rd_T135 l0 x3_1).f2.f6))) (ds := []) #[false, false, false, false, false, false, false, false, false, false, false, false, false, false, false, false, false, false, false, false, false, false, false, false, false, false, false, false, false, false, false, false, false] (by kernel_rfl) rfl rfl ⟨((HB.out.cell (World.block_lt_of_cell? _ _ hw113_0)).trans hw113_0), ((HB.out.cell (World.block_lt_of_cell? _ _ hw113_1)).trans hw113_1), ((HB.out.cell (World.block_lt_of_cell? _ _ hw113_2)).trans hw113_2), ((HB.out.cell (World.block_lt_of_cell? _ _ hw113_3)).trans hw113_3), ((HB.out.cell (World.block_lt_of_cell? _ _ hw113_4)).trans hw113_4), ((HB.out.cell (World.block_lt_of_cell? _ _ hw113_5)).trans hw113_5), ((HB.out.cell (World.block_lt_of_cell? _ _ hw113_6)).trans hw113_6), ((HB.out.cell (World.block_lt_of_cell? _ _ hw113_7)).trans hw113_7), ((HB.out.cell (World.block_lt_of_cell? _ _ hw113_8)).trans hw113_8), ((HB.out.cell (World.block_lt_of_cell? _ _ hw115_0)).trans hw115_0), ((HB.out.cell (World.block_lt_of_cell? _ _ hw115_1)).trans hw115_1), ((HB.out.cell (World.block_lt_of_cell? _ _ hw115_2)).trans hw115_2), ((HB.out.cell (World.block_lt_of_cell? _ _ hw115_3)).trans hw115_3), ((HB.out.cell (World.block_lt_of_cell? _ _ hw115_4)).trans hw115_4), ((HB.out.cell (World.block_lt_of_cell? _ _ hw115_5)).trans hw115_5), ((HB.out.cell (World.block_lt_of_cell? _ _ hw115_6)).trans hw115_6), ((HB.out.cell (World.block_lt_of_cell? _ _ hw115_7)).trans hw115_7), ((HB.out.cell (World.block_lt_of_cell? _ _ hw115_8)).trans hw115_8), ((HB.out.cell (World.block_lt_of_cell? _ _ hw117_0)).trans hw117_0), ((HB.out.cell (World.block_lt_of_cell? _ _ hw117_1)).trans hw117_1), ((HB.out.cell (World.block_lt_of_cell? _ _ hw117_2)).trans hw117_2), ((HB.out.cell (World.block_lt_of_cell? _ _ hw117_3)).trans hw117_3), ((HB.out.cell (World.block_lt_of_cell? _ _ hw117_4)).trans hw117_4), ((HB.out.cell (World.block_lt_of_cell? _ _ hw117_5)).trans hw117_5), ((HB.out.cell (World.block_lt_of_cell? _ _ hw117_6)).trans hw117_6), ((HB.out.cell (World.block_lt_of_cell? _ _ hw117_7)).trans hw117_7), ((HB.out.cell (World.block_lt_of_cell? _ _ hw117_8)).trans hw117_8), ((HB.out.cell (World.block_lt_of_cell? _ _ hw118_0)).trans hw118_0), ((HB.out.cell (World.block_lt_of_cell? _ _ hw118_1)).trans hw118_1), ((HB.out.cell (World.block_lt_of_cell? _ _ hw118_2)).trans hw118_2), ((HB.out.cell (World.block_lt_of_cell? _ _ hw118_3)).trans hw118_3), ((HB.out.cell (World.block_lt_of_cell? _ _ hw118_4)).trans hw118_4), ((HB.out.cell (World.block_lt_of_cell? _ _ hw118_5)).trans hw118_5), ((HB.out.cell (World.block_lt_of_cell? _ _ hw118_6)).trans hw118_6), ((HB.out.cell (World.block_lt_of_cell? _ _ hw118_7)).trans hw118_7), ((HB.out.cell (World.block_lt_of_cell? _ _ hw118_8)).trans hw118_8)⟩ (fun hHeld => ?_); refine with_tabW spec_RibRight.tab6 spec_RibRight.bits6 (fun HT_ HW_ => ?_)
                        generalize wr.drew = w18 at HB hx113_0 hx113_1 hx113_2 hx113_3 hx113_4 hx113_5 hx113_6 hx113_7 hx113_8 hx115_0 hx115_1 hx115_2 hx115_3 hx115_4 hx115_5 hx115_6 hx115_7 hx115_8 hx117_0 hx117_1 hx117_2 hx117_3 hx117_4 hx117_5 hx117_6 hx117_7 hx117_8 hx118_0 hx118_1 hx118_2 hx118_3 hx118_4 hx118_5 hx118_6 hx118_7 hx118_8 hHeld ⊢
                        refine pure_ (i := 0) (N := some 13) (v := ?_) (a' := ?_) #[true, false, false, false, false, false, false, false, false, false, false, false, false, false, false, false, false, false, false, false, false, false, false, false, false, false, false, false, false, false, false, false, false] rfl rfl (any_of HT_.out (by kernel_rfl)) (fun _ _ _ h => h) (Or.inl ⟨by rfl, ?_⟩) ?_ ?_
                        rotate_left
                        · intro w'
                          go_simp
                          with_reducible rfl
                        rotate_left
                        · simp only [Act.put, List.setIfInBounds_toArray, List.set_cons_zero, List.set_cons_succ, i64_w, i32_w]
                          rfl
                        refine pure_ (i := 1) (N := some 14) (v := ?_) (a' := ?_) #[true, true, false, false, false, false, false, false, false, false, false, false, false, false, false, false, false, false, false, false, false, false, false, false, false, false, false, false, false, false, false, false, false] rfl rfl (any_of HT_.out (by kernel_rfl)) (fun _ _ _ h => h) (Or.inl ⟨by rfl, ?_⟩) ?_ ?_
                        rotate_left
                        · intro w'
                          go_simp
                          with_reducible rfl
                        rotate_left
                        · simp only [Act.put, List.setIfInBounds_toArray, List.set_cons_zero, List.set_cons_succ, i64_w, i32_w]
                          rfl
                        refine pure_ (i := 2) (N := some 15) (v := ?_) (a' := ?_) #[true, true, true, false, false, false, false, false, false, false, false, false, false, false, false, false, false, false, false, false, false, false, false, false, false, false, false, false, false, false, false, false, false] rfl rfl (any_of HT_.out (by kernel_rfl)) (fun _ _ _ h => h) (Or.inl ⟨by rfl, ?_⟩) ?_ ?_
                        rotate_left
                        · intro w'
                          go_simp
                          with_reducible rfl
                        rotate_left
                        · simp only [Act.put, List.setIfInBounds_toArray, List.set_cons_zero, List.set_cons_succ, i64_w, i32_w]
                          rfl
                        refine pure_ (i := 3) (N := some 16) (v := ?_) (a' := ?_) #[true, true, true, true, false, false, false, false, false, false, false, false, false, false, false, false, false, false, false, false, false, false, false, false, false, false, false, false, false, false, false, false, false] rfl rfl (any_of HT_.out (by kernel_rfl)) (fun _ _ _ h => h) (Or.inl ⟨by rfl, ?_⟩) ?_ ?_
                        rotate_left
                        · intro w'
                          go_simp
                          with_reducible rfl
                        rotate_left
                        · simp only [Act.put, List.setIfInBounds_toArray, List.set_cons_zero, List.set_cons_succ, i64_w, i32_w]
                          rfl
                        refine take_ (i := 4) (N := some 17) (v := ?_) (a' := ?_) #[true, true, true, true, true, false, false, false, false, false, false, false, false, false, false, false, false, false, false, false, false, false, false, false, false, false, false, false, false, false, false, false, false] rfl rfl (take_ofW HT_.out HW_.out (by kernel_rfl)) (fun _ _ _ h => h) (Or.inl ⟨by rfl, ?_⟩) hHeld ?_ ?_
                        rotate_left
                        · rintro w' ⟨s0, s1, s2, s3, s4, s5, s6, s7, s8, s9, s10, s11, s12, s13, s14, s15, s16, s17, s18, s19, s20, s21, s22, s23, s24, s25, s26, s27, s28, s29, s30, s31, s32, s33, s34, s35⟩
                          go_simp
                          with_reducible rfl
                        rotate_left
                        · simp only [Act.put, List.setIfInBounds_toArray, List.set_cons_zero, List.set_cons_succ, i64_w, i32_w]
                          rfl
                        refine one_ (i := 5) (N := some 18) #[true, true, true, true, true, true, false, false, false, false, false, false, false, false, false, false, false, false, false, false, false, false, false, false, false, false, false, false, false, false, false, false, false] rfl rfl (one_of HT_.out (by kernel_rfl)) (by decide) (fun K hK => ?_)
                        refine goes_ Try.func120 (by kernel_rfl) rfl #[.int .i64 ((rd_T135 l0 x3_1).f0)] (by rfl) rfl rfl (by (try simp only [List.map_toArray, List.map_cons, List.map_nil]); first | done | rfl | (simp only [List.length_drop, List.length_take]; rfl)) ?_
                        with_reducible refine (spec_l06Peer.calls ((rd_T135 l0 x3_1).f0) true _ A5.out).mono ?_
                        rintro e w' ⟨rfl, ⟨nd, rfl⟩⟩
                        refine ⟨_, rfl, ?_⟩
                        refine hK.out _ _ ⟨((HB.out.cell (World.block_lt_of_cell? _ _ hw113_0)).trans hw113_0), ((HB.out.cell (World.block_lt_of_cell? _ _ hw113_1)).trans hw113_1), ((HB.out.cell (World.block_lt_of_cell? _ _ hw113_2)).trans hw113_2), ((HB.out.cell (World.block_lt_of_cell? _ _ hw113_3)).trans hw113_3), ((HB.out.cell (World.block_lt_of_cell? _ _ hw113_4)).trans hw113_4), ((HB.out.cell (World.block_lt_of_cell? _ _ hw113_5)).trans hw113_5), ((HB.out.cell (World.block_lt_of_cell? _ _ hw113_6)).trans hw113_6), ((HB.out.cell (World.block_lt_of_cell? _ _ hw113_7)).trans hw113_7), ((HB.out.cell (World.block_lt_of_cell? _ _ hw113_8)).trans hw113_8), ((HB.out.cell (World.block_lt_of_cell? _ _ hw115_0)).trans hw115_0), ((HB.out.cell (World.block_lt_of_cell? _ _ hw115_1)).trans hw115_1), ((HB.out.cell (World.block_lt_of_cell? _ _ hw115_2)).trans hw115_2), ((HB.out.cell (World.block_lt_of_cell? _ _ hw115_3)).trans hw115_3), ((HB.out.cell (World.block_lt_of_cell? _ _ hw115_4)).trans hw115_4), ((HB.out.cell (World.block_lt_of_cell? _ _ hw115_5)).trans hw115_5), ((HB.out.cell (World.block_lt_of_cell? _ _ hw115_6)).trans hw115_6), ((HB.out.cell (World.block_lt_of_cell? _ _ hw115_7)).trans hw115_7), ((HB.out.cell (World.block_lt_of_cell? _ _ hw115_8)).trans hw115_8), ((HB.out.cell (World.block_lt_of_cell? _ _ hw117_0)).trans hw117_0), ((HB.out.cell (World.block_lt_of_cell? _ _ hw117_1)).trans hw117_1), ((HB.out.cell (World.block_lt_of_cell? _ _ hw117_2)).trans hw117_2), ((HB.out.cell (World.block_lt_of_cell? _ _ hw117_3)).trans hw117_3), ((HB.out.cell (World.block_lt_of_cell? _ _ hw117_4)).trans hw117_4), ((HB.out.cell (World.block_lt_of_cell? _ _ hw117_5)).trans hw117_5), ((HB.out.cell (World.block_lt_of_cell? _ _ hw117_6)).trans hw117_6), ((HB.out.cell (World.block_lt_of_cell? _ _ hw117_7)).trans hw117_7), ((HB.out.cell (World.block_lt_of_cell? _ _ hw117_8)).trans hw117_8), ((HB.out.cell (World.block_lt_of_cell? _ _ hw118_0)).trans hw118_0), ((HB.out.cell (World.block_lt_of_cell? _ _ hw118_1)).trans hw118_1), ((HB.out.cell (World.block_lt_of_cell? _ _ hw118_2)).trans hw118_2), ((HB.out.cell (World.block_lt_of_cell? _ _ hw118_3)).trans hw118_3), ((HB.out.cell (World.block_lt_of_cell? _ _ hw118_4)).trans hw118_4), ((HB.out.cell (World.block_lt_of_cell? _ _ hw118_5)).trans hw118_5), ((HB.out.cell (World.block_lt_of_cell? _ _ hw118_6)).trans hw118_6), ((HB.out.cell (World.block_lt_of_cell? _ _ hw118_7)).trans hw118_7), ((HB.out.cell (World.block_lt_of_cell? _ _ hw118_8)).trans hw118_8)⟩ (fun hHeld => ?_)
                        clear hK K
                        refine norm_ (a' := ?_) ?_ ?_
                        rotate_left
                        · show Act.put _ (some 18) _ = _
                          simp only [Act.put, List.setIfInBounds_toArray, List.set_cons_zero, List.set_cons_succ, i64_w, i32_w]
                          rfl
                        refine pure_ (i := 6) (N := some 19) (v := ?_) (a' := ?_) #[true, true, true, true, true, true, true, false, false, false, false, false, false, false, false, false, false, false, false, false, false, false, false, false, false, false, false, false, false, false, false, false, false] rfl rfl (any_of HT_.out (by kernel_rfl)) (fun _ _ _ h => h) (Or.inl ⟨by rfl, ?_⟩) ?_ ?_
                        rotate_left
                        · intro w'
                          go_simp
                          with_reducible rfl
                        rotate_left
                        · simp only [Act.put, List.setIfInBounds_toArray, List.set_cons_zero, List.set_cons_succ, i64_w, i32_w]
                          rfl
                        refine pure_ (i := 7) (N := some 20) (v := ?_) (a' := ?_) #[true, true, true, true, true, true, true, true, false, false, false, false, false, false, false, false, false, false, false, false, false, false, false, false, false, false, false, false, false, false, false, false, false] rfl rfl (any_of HT_.out (by kernel_rfl)) (fun _ _ _ h => h) (Or.inl ⟨by rfl, ?_⟩) ?_ ?_
                        rotate_left
                        · intro w'
                          go_simp
                          with_reducible rfl
                        rotate_left
                        · simp only [Act.put, List.setIfInBounds_toArray, List.set_cons_zero, List.set_cons_succ, i64_w, i32_w]
                          rfl
                        refine pure_ (i := 8) (N := some 21) (v := ?_) (a' := ?_) #[true, true, true, true, true, true, true, true, true, false, false, false, false, false, false, false, false, false, false, false, false, false, false, false, false, false, false, false, false, false, false, false, false] rfl rfl (any_of HT_.out (by kernel_rfl)) (fun _ _ _ h => h) (Or.inl ⟨by rfl, ?_⟩) ?_ ?_
                        rotate_left
                        · intro w'
                          go_simp
                          with_reducible rfl
                        rotate_left
                        · simp only [Act.put, List.setIfInBounds_toArray, List.set_cons_zero, List.set_cons_succ, i64_w, i32_w]
                          rfl
                        refine pure_ (i := 9) (N := some 22) (v := ?_) (a' := ?_) #[true, true, true, true, true, true, true, true, true, true, false, false, false, false, false, false, false, false, false, false, false, false, false, false, false, false, false, false, false, false, false, false, false] rfl rfl (any_of HT_.out (by kernel_rfl)) (fun _ _ _ h => h) (Or.inl ⟨by rfl, ?_⟩) ?_ ?_
                        rotate_left
                        · intro w'
                          go_simp
                          with_reducible rfl
                        rotate_left
                        · simp only [Act.put, List.setIfInBounds_toArray, List.set_cons_zero, List.set_cons_succ, i64_w, i32_w]
                          rfl
                        refine pure_ (i := 10) (N := some 23) (v := ?_) (a' := ?_) #[true, true, true, true, true, true, true, true, true, true, true, false, false, false, false, false, false, false, false, false, false, false, false, false, false, false, false, false, false, false, false, false, false] rfl rfl (any_of HT_.out (by kernel_rfl)) (fun _ _ _ h => h) (Or.inl ⟨by rfl, ?_⟩) ?_ ?_
                        rotate_left
                        · intro w'
                          go_simp
                          with_reducible rfl
                        rotate_left
                        · simp only [Act.put, List.setIfInBounds_toArray, List.set_cons_zero, List.set_cons_succ, i64_w, i32_w]
                          rfl
                        refine pure_ (i := 11) (N := some 24) (v := ?_) (a' := ?_) #[true, true, true, true, true, true, true, true, true, true, true, true, false, false, false, false, false, false, false, false, false, false, false, false, false, false, false, false, false, false, false, false, false] rfl rfl (any_of HT_.out (by kernel_rfl)) (fun _ _ _ h => h) (Or.inl ⟨by rfl, ?_⟩) ?_ ?_
                        rotate_left
                        · intro w'
                          go_simp
                          with_reducible rfl
                        rotate_left
                        · simp only [Act.put, List.setIfInBounds_toArray, List.set_cons_zero, List.set_cons_succ, i64_w, i32_w]
                          rfl
                        refine take_ (i := 12) (N := some 25) (v := ?_) (a' := ?_) #[true, true, true, true, true, true, true, true, true, true, true, true, true, false, false, false, false, false, false, false, false, false, false, false, false, false, false, false, false, false, false, false, false] rfl rfl (take_ofW HT_.out HW_.out (by kernel_rfl)) (fun _ _ _ h => h) (Or.inl ⟨by rfl, ?_⟩) hHeld ?_ ?_
                        rotate_left
                        · rintro w' ⟨s0, s1, s2, s3, s4, s5, s6, s7, s8, s9, s10, s11, s12, s13, s14, s15, s16, s17, s18, s19, s20, s21, s22, s23, s24, s25, s26, s27, s28, s29, s30, s31, s32, s33, s34, s35⟩
                          go_simp
                          with_reducible rfl
                        rotate_left
                        · simp only [Act.put, List.setIfInBounds_toArray, List.set_cons_zero, List.set_cons_succ, i64_w, i32_w]
                          rfl
                        refine one_ (i := 13) (N := some 26) #[true, true, true, true, true, true, true, true, true, true, true, true, true, true, false, false, false, false, false, false, false, false, false, false, false, false, false, false, false, false, false, false, false] rfl rfl (one_of HT_.out (by kernel_rfl)) (by decide) (fun K hK => ?_)
                        refine goes_ Try.func101 (by kernel_rfl) rfl #[.agg #[.int .i64 ((rd_T135 l0 x3_1).f2.f0), .int .i64 ((rd_T135 l0 x3_1).f2.f1), .int .i64 ((rd_T135 l0 x3_1).f2.f2), .int .i64 ((rd_T135 l0 x3_1).f2.f3), .int .i64 ((rd_T135 l0 x3_1).f2.f4), .int .i64 ((rd_T135 l0 x3_1).f2.f5), .bool ((rd_T135 l0 x3_1).f2.f6)]] (by rfl) rfl rfl (by (try simp only [List.map_toArray, List.map_cons, List.map_nil]); first | done | rfl | (simp only [List.length_drop, List.length_take]; rfl)) ?_
                        with_reducible refine (spec_RouteRight.calls k1 ((rd_T135 l0 x3_1).f2.f0) ((rd_T135 l0 x3_1).f2.f1) ((rd_T135 l0 x3_1).f2.f2) ((rd_T135 l0 x3_1).f2.f3) ((rd_T135 l0 x3_1).f2.f4) ((rd_T135 l0 x3_1).f2.f5) ((rd_T135 l0 x3_1).f2.f6) true _ A7.out).mono ?_
                        rintro e w19 ⟨rfl, hb⟩
                        refine ⟨_, rfl, ?_⟩
                        have n0_ := Aside0.mk (below_step (by repeat (first | (with_reducible first | exact HB.out | apply below_alloc | apply pw_below_drewN | apply below_drew1) | exact HB.out)) hb)
                        clear HB
                        have HB := n0_
                        clear n0_
                        (try clear hb)
                        (try clear hb2)
                        (try clear hk)
                        (try clear hi)
                        refine hK.out _ _ ⟨((HB.out.cell (World.block_lt_of_cell? _ _ hw113_0)).trans hw113_0), ((HB.out.cell (World.block_lt_of_cell? _ _ hw113_1)).trans hw113_1), ((HB.out.cell (World.block_lt_of_cell? _ _ hw113_2)).trans hw113_2), ((HB.out.cell (World.block_lt_of_cell? _ _ hw113_3)).trans hw113_3), ((HB.out.cell (World.block_lt_of_cell? _ _ hw113_4)).trans hw113_4), ((HB.out.cell (World.block_lt_of_cell? _ _ hw113_5)).trans hw113_5), ((HB.out.cell (World.block_lt_of_cell? _ _ hw113_6)).trans hw113_6), ((HB.out.cell (World.block_lt_of_cell? _ _ hw113_7)).trans hw113_7), ((HB.out.cell (World.block_lt_of_cell? _ _ hw113_8)).trans hw113_8), ((HB.out.cell (World.block_lt_of_cell? _ _ hw115_0)).trans hw115_0), ((HB.out.cell (World.block_lt_of_cell? _ _ hw115_1)).trans hw115_1), ((HB.out.cell (World.block_lt_of_cell? _ _ hw115_2)).trans hw115_2), ((HB.out.cell (World.block_lt_of_cell? _ _ hw115_3)).trans hw115_3), ((HB.out.cell (World.block_lt_of_cell? _ _ hw115_4)).trans hw115_4), ((HB.out.cell (World.block_lt_of_cell? _ _ hw115_5)).trans hw115_5), ((HB.out.cell (World.block_lt_of_cell? _ _ hw115_6)).trans hw115_6), ((HB.out.cell (World.block_lt_of_cell? _ _ hw115_7)).trans hw115_7), ((HB.out.cell (World.block_lt_of_cell? _ _ hw115_8)).trans hw115_8), ((HB.out.cell (World.block_lt_of_cell? _ _ hw117_0)).trans hw117_0), ((HB.out.cell (World.block_lt_of_cell? _ _ hw117_1)).trans hw117_1), ((HB.out.cell (World.block_lt_of_cell? _ _ hw117_2)).trans hw117_2), ((HB.out.cell (World.block_lt_of_cell? _ _ hw117_3)).trans hw117_3), ((HB.out.cell (World.block_lt_of_cell? _ _ hw117_4)).trans hw117_4), ((HB.out.cell (World.block_lt_of_cell? _ _ hw117_5)).trans hw117_5), ((HB.out.cell (World.block_lt_of_cell? _ _ hw117_6)).trans hw117_6), ((HB.out.cell (World.block_lt_of_cell? _ _ hw117_7)).trans hw117_7), ((HB.out.cell (World.block_lt_of_cell? _ _ hw117_8)).trans hw117_8), ((HB.out.cell (World.block_lt_of_cell? _ _ hw118_0)).trans hw118_0), ((HB.out.cell (World.block_lt_of_cell? _ _ hw118_1)).trans hw118_1), ((HB.out.cell (World.block_lt_of_cell? _ _ hw118_2)).trans hw118_2), ((HB.out.cell (World.block_lt_of_cell? _ _ hw118_3)).trans hw118_3), ((HB.out.cell (World.block_lt_of_cell? _ _ hw118_4)).trans hw118_4), ((HB.out.cell (World.block_lt_of_cell? _ _ hw118_5)).trans hw118_5), ((HB.out.cell (World.block_lt_of_cell? _ _ hw118_6)).trans hw118_6), ((HB.out.cell (World.block_lt_of_cell? _ _ hw118_7)).trans hw118_7), ((HB.out.cell (World.block_lt_of_cell? _ _ hw118_8)).trans hw118_8)⟩ (fun hHeld => ?_)
                        clear hK K
                        refine norm_ (a' := ?_) ?_ ?_
                        rotate_left
                        · show Act.put _ (some 26) _ = _
                          simp only [Act.put, List.setIfInBounds_toArray, List.set_cons_zero, List.set_cons_succ, i64_w, i32_w]
                          rfl
                        refine pure_ (i := 14) (N := some 27) (v := ?_) (a' := ?_) #[true, true, true, true, true, true, true, true, true, true, true, true, true, true, true, false, false, false, false, false, false, false, false, false, false, false, false, false, false, false, false, false, false] rfl rfl (any_of HT_.out (by kernel_rfl)) (fun _ _ _ h => h) (Or.inl ⟨by rfl, ?_⟩) ?_ ?_
                        rotate_left
                        · intro w'
                          go_simp
                          with_reducible rfl
                        rotate_left
                        · simp only [Act.put, List.setIfInBounds_toArray, List.set_cons_zero, List.set_cons_succ, i64_w, i32_w]
                          rfl
                        refine pure_ (i := 15) (N := some 28) (v := ?_) (a' := ?_) #[true, true, true, true, true, true, true, true, true, true, true, true, true, true, true, true, false, false, false, false, false, false, false, false, false, false, false, false, false, false, false, false, false] rfl rfl (any_of HT_.out (by kernel_rfl)) (fun _ _ _ h => h) (Or.inl ⟨by rfl, ?_⟩) ?_ ?_
                        rotate_left
                        · intro w'
                          go_simp
                          with_reducible rfl
                        rotate_left
                        · simp only [Act.put, List.setIfInBounds_toArray, List.set_cons_zero, List.set_cons_succ, i64_w, i32_w]
                          rfl
                        refine pure_ (i := 16) (N := some 29) (v := ?_) (a' := ?_) #[true, true, true, true, true, true, true, true, true, true, true, true, true, true, true, true, true, false, false, false, false, false, false, false, false, false, false, false, false, false, false, false, false] rfl rfl (any_of HT_.out (by kernel_rfl)) (fun _ _ _ h => h) (Or.inl ⟨by rfl, ?_⟩) ?_ ?_
                        rotate_left
                        · intro w'
                          go_simp
                          with_reducible rfl
                        rotate_left
                        · simp only [Act.put, List.setIfInBounds_toArray, List.set_cons_zero, List.set_cons_succ, i64_w, i32_w]
                          rfl
                        refine pure_ (i := 17) (N := some 30) (v := ?_) (a' := ?_) #[true, true, true, true, true, true, true, true, true, true, true, true, true, true, true, true, true, true, false, false, false, false, false, false, false, false, false, false, false, false, false, false, false] rfl rfl (any_of HT_.out (by kernel_rfl)) (fun _ _ _ h => h) (Or.inl ⟨by rfl, ?_⟩) ?_ ?_
                        rotate_left
                        · intro w'
                          go_simp
                          with_reducible rfl
                        rotate_left
                        · simp only [Act.put, List.setIfInBounds_toArray, List.set_cons_zero, List.set_cons_succ, i64_w, i32_w]
                          rfl
                        refine pure_ (i := 18) (N := some 31) (v := ?_) (a' := ?_) #[true, true, true, true, true, true, true, true, true, true, true, true, true, true, true, true, true, true, true, false, false, false, false, false, false, false, false, false, false, false, false, false, false] rfl rfl (any_of HT_.out (by kernel_rfl)) (fun _ _ _ h => h) (Or.inl ⟨by rfl, ?_⟩) ?_ ?_
                        rotate_left
                        · intro w'
                          go_simp
                          with_reducible rfl
                        rotate_left
                        · simp only [Act.put, List.setIfInBounds_toArray, List.set_cons_zero, List.set_cons_succ, i64_w, i32_w]
                          rfl
                        refine pure_ (i := 19) (N := some 32) (v := ?_) (a' := ?_) #[true, true, true, true, true, true, true, true, true, true, true, true, true, true, true, true, true, true, true, true, false, false, false, false, false, false, false, false, false, false, false, false, false] rfl rfl (any_of HT_.out (by kernel_rfl)) (fun _ _ _ h => h) (Or.inl ⟨by rfl, ?_⟩) ?_ ?_
                        rotate_left
                        · intro w'
                          go_simp
                          with_reducible rfl
                        rotate_left
                        · simp only [Act.put, List.setIfInBounds_toArray, List.set_cons_zero, List.set_cons_succ, i64_w, i32_w]
                          rfl
                        refine pure_ (i := 20) (N := some 33) (v := ?_) (a' := ?_) #[true, true, true, true, true, true, true, true, true, true, true, true, true, true, true, true, true, true, true, true, true, false, false, false, false, false, false, false, false, false, false, false, false] rfl rfl (any_of HT_.out (by kernel_rfl)) (fun _ _ _ h => h) (Or.inl ⟨by rfl, ?_⟩) ?_ ?_
                        rotate_left
                        · intro w'
                          go_simp
                          with_reducible rfl
                        rotate_left
                        · simp only [Act.put, List.setIfInBounds_toArray, List.set_cons_zero, List.set_cons_succ, i64_w, i32_w]
                          rfl
                        refine pure_ (i := 21) (N := some 34) (v := ?_) (a' := ?_) #[true, true, true, true, true, true, true, true, true, true, true, true, true, true, true, true, true, true, true, true, true, true, false, false, false, false, false, false, false, false, false, false, false] rfl rfl (any_of HT_.out (by kernel_rfl)) (fun _ _ _ h => h) (Or.inl ⟨by rfl, ?_⟩) ?_ ?_
                        rotate_left
                        · intro w'
                          go_simp
                          with_reducible rfl
                        rotate_left
                        · simp only [Act.put, List.setIfInBounds_toArray, List.set_cons_zero, List.set_cons_succ, i64_w, i32_w]
                          rfl
                        refine pure_ (i := 22) (N := some 35) (v := ?_) (a' := ?_) #[true, true, true, true, true, true, true, true, true, true, true, true, true, true, true, true, true, true, true, true, true, true, true, false, false, false, false, false, false, false, false, false, false] rfl rfl (any_of HT_.out (by kernel_rfl)) (fun _ _ _ h => h) (Or.inl ⟨by rfl, ?_⟩) ?_ ?_
                        rotate_left
                        · intro w'
                          go_simp
                          with_reducible rfl
                        rotate_left
                        · simp only [Act.put, List.setIfInBounds_toArray, List.set_cons_zero, List.set_cons_succ, i64_w, i32_w]
                          rfl
                        refine pure_ (i := 23) (N := some 36) (v := ?_) (a' := ?_) #[true, true, true, true, true, true, true, true, true, true, true, true, true, true, true, true, true, true, true, true, true, true, true, true, false, false, false, false, false, false, false, false, false] rfl rfl (any_of HT_.out (by kernel_rfl)) (fun _ _ _ h => h) (Or.inl ⟨by rfl, ?_⟩) ?_ ?_
                        rotate_left
                        · intro w'
                          go_simp
                          with_reducible rfl
                        rotate_left
                        · simp only [Act.put, List.setIfInBounds_toArray, List.set_cons_zero, List.set_cons_succ, i64_w, i32_w]
                          rfl
                        refine pure_ (i := 25) (N := some 38) (v := ?_) (a' := ?_) #[true, true, true, true, true, true, true, true, true, true, true, true, true, true, true, true, true, true, true, true, true, true, true, true, false, true, false, false, false, false, false, false, false] rfl rfl (any_of HT_.out (by kernel_rfl)) (fun _ _ _ h => h) (Or.inl ⟨by rfl, ?_⟩) ?_ ?_
                        rotate_left
                        · intro w'
                          go_simp
                          with_reducible rfl
                        rotate_left
                        · simp only [Act.put, List.setIfInBounds_toArray, List.set_cons_zero, List.set_cons_succ, i64_w, i32_w]
                          rfl
                        refine pure_ (i := 26) (N := some 39) (v := ?_) (a' := ?_) #[true, true, true, true, true, true, true, true, true, true, true, true, true, true, true, true, true, true, true, true, true, true, true, true, false, true, true, false, false, false, false, false, false] rfl rfl (any_of HT_.out (by kernel_rfl)) (fun _ _ _ h => h) (Or.inl ⟨by rfl, ?_⟩) ?_ ?_
                        rotate_left
                        · intro w'
                          go_simp
                          with_reducible rfl
                        rotate_left
                        · simp only [Act.put, List.setIfInBounds_toArray, List.set_cons_zero, List.set_cons_succ, i64_w, i32_w]
                          rfl
                        refine pure_ (i := 27) (N := some 40) (v := ?_) (a' := ?_) #[true, true, true, true, true, true, true, true, true, true, true, true, true, true, true, true, true, true, true, true, true, true, true, true, false, true, true, true, false, false, false, false, false] rfl rfl (any_of HT_.out (by kernel_rfl)) (fun _ _ _ h => h) (Or.inl ⟨by rfl, ?_⟩) ?_ ?_
                        rotate_left
                        · intro w'
                          go_simp
                          with_reducible rfl
                        rotate_left
                        · simp only [Act.put, List.setIfInBounds_toArray, List.set_cons_zero, List.set_cons_succ, i64_w, i32_w]
                          rfl
                        refine take_ (i := 24) (N := some 37) (v := ?_) (a' := ?_) #[true, true, true, true, true, true, true, true, true, true, true, true, true, true, true, true, true, true, true, true, true, true, true, true, true, true, true, true, false, false, false, false, false] rfl rfl (take_ofW HT_.out HW_.out (by kernel_rfl)) (fun _ _ _ h => h) (Or.inl ⟨by rfl, ?_⟩) hHeld ?_ ?_
                        rotate_left
                        · rintro w' ⟨s0, s1, s2, s3, s4, s5, s6, s7, s8, s9, s10, s11, s12, s13, s14, s15, s16, s17, s18, s19, s20, s21, s22, s23, s24, s25, s26, s27, s28, s29, s30, s31, s32, s33, s34, s35⟩
                          go_simp
                          with_reducible rfl
                        rotate_left
                        · simp only [Act.put, List.setIfInBounds_toArray, List.set_cons_zero, List.set_cons_succ, i64_w, i32_w]
                          rfl
                        refine take_ (i := 28) (N := some 41) (v := ?_) (a' := ?_) #[true, true, true, true, true, true, true, true, true, true, true, true, true, true, true, true, true, true, true, true, true, true, true, true, true, true, true, true, true, false, false, false, false] rfl rfl (take_ofW HT_.out HW_.out (by kernel_rfl)) (fun _ _ _ h => h) (Or.inl ⟨by rfl, ?_⟩) hHeld ?_ ?_
                        rotate_left
                        · rintro w' ⟨s0, s1, s2, s3, s4, s5, s6, s7, s8, s9, s10, s11, s12, s13, s14, s15, s16, s17, s18, s19, s20, s21, s22, s23, s24, s25, s26, s27, s28, s29, s30, s31, s32, s33, s34, s35⟩
                          go_simp
                          with_reducible rfl
                        rotate_left
                        · simp only [Act.put, List.setIfInBounds_toArray, List.set_cons_zero, List.set_cons_succ, i64_w, i32_w]
                          rfl
                        refine one_ (i := 29) (N := some 42) #[true, true, true, true, true, true, true, true, true, true, true, true, true, true, true, true, true, true, true, true, true, true, true, true, true, true, true, true, true, true, false, false, false] rfl rfl (one_of HT_.out (by kernel_rfl)) (by decide) (fun K hK => ?_)
                        refine goes_ Try.func121 (by kernel_rfl) rfl #[.agg #[.int .i64 ((rd_T135 l0 (ji10)).f0), .bool ((rd_T135 l0 (ji10)).f1), .int .i64 ((rd_T135 l0 (ji10)).f2.f0), .int .i64 ((rd_T135 l0 (ji10)).f2.f1), .int .i64 ((rd_T135 l0 (ji10)).f2.f2), .int .i64 ((rd_T135 l0 (ji10)).f2.f3), .int .i64 ((rd_T135 l0 (ji10)).f2.f4), .int .i64 ((rd_T135 l0 (ji10)).f2.f5), .bool ((rd_T135 l0 (ji10)).f2.f6)], .agg #[.int .i64 ((rd_T135 l0 x3_1).f0), .bool ((rd_T135 l0 x3_1).f1), .int .i64 ((rd_T135 l0 x3_1).f2.f0), .int .i64 ((rd_T135 l0 x3_1).f2.f1), .int .i64 ((rd_T135 l0 x3_1).f2.f2), .int .i64 ((rd_T135 l0 x3_1).f2.f3), .int .i64 ((rd_T135 l0 x3_1).f2.f4), .int .i64 ((rd_T135 l0 x3_1).f2.f5), .bool ((rd_T135 l0 x3_1).f2.f6)]] (by rfl) rfl rfl (by (try simp only [List.map_toArray, List.map_cons, List.map_nil]); first | done | (simp only [hji10]; rfl) | rfl | (simp only [List.length_drop, List.length_take]; rfl)) ?_
                        with_reducible refine (spec_l06Less.calls ((rd_T135 l0 (ji10)).f0) ((rd_T135 l0 (ji10)).f1) ((rd_T135 l0 (ji10)).f2.f0) ((rd_T135 l0 (ji10)).f2.f1) ((rd_T135 l0 (ji10)).f2.f2) ((rd_T135 l0 (ji10)).f2.f3) ((rd_T135 l0 (ji10)).f2.f4) ((rd_T135 l0 (ji10)).f2.f5) ((rd_T135 l0 (ji10)).f2.f6) ((rd_T135 l0 x3_1).f0) ((rd_T135 l0 x3_1).f1) ((rd_T135 l0 x3_1).f2.f0) ((rd_T135 l0 x3_1).f2.f1) ((rd_T135 l0 x3_1).f2.f2) ((rd_T135 l0 x3_1).f2.f3) ((rd_T135 l0 x3_1).f2.f4) ((rd_T135 l0 x3_1).f2.f5) ((rd_T135 l0 x3_1).f2.f6) false _ A13.out).mono ?_
                        rintro e w20 ⟨rfl, hb⟩
                        refine ⟨_, rfl, ?_⟩
                        have n0_ := Aside0.mk (below_step (by repeat (first | (with_reducible first | exact HB.out | apply below_alloc | apply pw_below_drewN | apply below_drew1) | exact HB.out)) hb)
                        clear HB
                        have HB := n0_
                        clear n0_
                        (try clear hb)
                        (try clear hb2)
                        (try clear hk)
                        (try clear hi)
                        refine hK.out _ _ ⟨((HB.out.cell (World.block_lt_of_cell? _ _ hw113_0)).trans hw113_0), ((HB.out.cell (World.block_lt_of_cell? _ _ hw113_1)).trans hw113_1), ((HB.out.cell (World.block_lt_of_cell? _ _ hw113_2)).trans hw113_2), ((HB.out.cell (World.block_lt_of_cell? _ _ hw113_3)).trans hw113_3), ((HB.out.cell (World.block_lt_of_cell? _ _ hw113_4)).trans hw113_4), ((HB.out.cell (World.block_lt_of_cell? _ _ hw113_5)).trans hw113_5), ((HB.out.cell (World.block_lt_of_cell? _ _ hw113_6)).trans hw113_6), ((HB.out.cell (World.block_lt_of_cell? _ _ hw113_7)).trans hw113_7), ((HB.out.cell (World.block_lt_of_cell? _ _ hw113_8)).trans hw113_8), ((HB.out.cell (World.block_lt_of_cell? _ _ hw115_0)).trans hw115_0), ((HB.out.cell (World.block_lt_of_cell? _ _ hw115_1)).trans hw115_1), ((HB.out.cell (World.block_lt_of_cell? _ _ hw115_2)).trans hw115_2), ((HB.out.cell (World.block_lt_of_cell? _ _ hw115_3)).trans hw115_3), ((HB.out.cell (World.block_lt_of_cell? _ _ hw115_4)).trans hw115_4), ((HB.out.cell (World.block_lt_of_cell? _ _ hw115_5)).trans hw115_5), ((HB.out.cell (World.block_lt_of_cell? _ _ hw115_6)).trans hw115_6), ((HB.out.cell (World.block_lt_of_cell? _ _ hw115_7)).trans hw115_7), ((HB.out.cell (World.block_lt_of_cell? _ _ hw115_8)).trans hw115_8), ((HB.out.cell (World.block_lt_of_cell? _ _ hw117_0)).trans hw117_0), ((HB.out.cell (World.block_lt_of_cell? _ _ hw117_1)).trans hw117_1), ((HB.out.cell (World.block_lt_of_cell? _ _ hw117_2)).trans hw117_2), ((HB.out.cell (World.block_lt_of_cell? _ _ hw117_3)).trans hw117_3), ((HB.out.cell (World.block_lt_of_cell? _ _ hw117_4)).trans hw117_4), ((HB.out.cell (World.block_lt_of_cell? _ _ hw117_5)).trans hw117_5), ((HB.out.cell (World.block_lt_of_cell? _ _ hw117_6)).trans hw117_6), ((HB.out.cell (World.block_lt_of_cell? _ _ hw117_7)).trans hw117_7), ((HB.out.cell (World.block_lt_of_cell? _ _ hw117_8)).trans hw117_8), ((HB.out.cell (World.block_lt_of_cell? _ _ hw118_0)).trans hw118_0), ((HB.out.cell (World.block_lt_of_cell? _ _ hw118_1)).trans hw118_1), ((HB.out.cell (World.block_lt_of_cell? _ _ hw118_2)).trans hw118_2), ((HB.out.cell (World.block_lt_of_cell? _ _ hw118_3)).trans hw118_3), ((HB.out.cell (World.block_lt_of_cell? _ _ hw118_4)).trans hw118_4), ((HB.out.cell (World.block_lt_of_cell? _ _ hw118_5)).trans hw118_5), ((HB.out.cell (World.block_lt_of_cell? _ _ hw118_6)).trans hw118_6), ((HB.out.cell (World.block_lt_of_cell? _ _ hw118_7)).trans hw118_7), ((HB.out.cell (World.block_lt_of_cell? _ _ hw118_8)).trans hw118_8)⟩ (fun hHeld => ?_)
                        clear hK K
                        refine norm_ (a' := ?_) ?_ ?_
                        rotate_left
                        · show Act.put _ (some 42) _ = _
                          simp only [Act.put, List.setIfInBounds_toArray, List.set_cons_zero, List.set_cons_succ, i64_w, i32_w]
                          rfl
                        refine pure_ (i := 30) (N := some 43) (v := ?_) (a' := ?_) #[true, true, true, true, true, true, true, true, true, true, true, true, true, true, true, true, true, true, true, true, true, true, true, true, true, true, true, true, true, true, true, false, false] rfl rfl (any_of HT_.out (by kernel_rfl)) (fun _ _ _ h => h) (Or.inl ⟨by rfl, ?_⟩) ?_ ?_
                        rotate_left
                        · intro w'
                          go_simp
                          with_reducible rfl
                        rotate_left
                        · simp only [Act.put, List.setIfInBounds_toArray, List.set_cons_zero, List.set_cons_succ, i64_w, i32_w]
                          rfl
                        refine pure_ (i := 31) (N := some 44) (v := ?_) (a' := ?_) #[true, true, true, true, true, true, true, true, true, true, true, true, true, true, true, true, true, true, true, true, true, true, true, true, true, true, true, true, true, true, true, true, false] rfl rfl (any_of HT_.out (by kernel_rfl)) (fun _ _ _ h => h) (Or.inl ⟨by rfl, ?_⟩) ?_ ?_
                        rotate_left
                        · intro w'
                          go_simp
                          with_reducible rfl
                        rotate_left
                        · simp only [Act.put, List.setIfInBounds_toArray, List.set_cons_zero, List.set_cons_succ, i64_w, i32_w]
                          rfl
                        refine pure_ (i := 32) (N := some 45) (v := ?_) (a' := ?_) #[true, true, true, true, true, true, true, true, true, true, true, true, true, true, true, true, true, true, true, true, true, true, true, true, true, true, true, true, true, true, true, true, true] rfl rfl (any_of HT_.out (by kernel_rfl)) (fun _ _ _ h => h) (Or.inl ⟨by rfl, ?_⟩) ?_ ?_
                        rotate_left
                        · intro w'
                          go_simp
                          with_reducible rfl
                        rotate_left
                        · simp only [Act.put, List.setIfInBounds_toArray, List.set_cons_zero, List.set_cons_succ, i64_w, i32_w]
                          rfl
                        refine done_ (done_of HT_.out (by kernel_rfl)) ?_
                        try go_wp2
                        go_ret
                        exact ⟨by first | rfl | (simp [errW_none, errW_some] <;> rfl) | (simp only [← hji10]; first | rfl | (simp [errW_none, errW_some] <;> rfl)) | (simp [*, errW_none, errW_some] <;> rfl), by repeat (first | (with_reducible first | exact HB.out | apply below_alloc | apply pw_below_drewN | apply below_drew1) | exact HB.out)⟩
                    · rw [if_neg c12] at H
                      exact absurd H (by simp)
                  · rw [if_neg c11] at H
                    exact absurd H (by simp)
                · rw [if_neg c9] at H
                  have c9b0 : decide (0 < x3_1) = false := decide_eq_false c9
                  clear c9
                  have H' := Aside0.mk H
                  clear H
                  try go_wp2
                  have n0_ := Aside0.mk (below_drew1 HB.out)
                  clear HB
                  have HB := n0_
                  clear n0_
                  have p113 : 0 ≤ (x3_1 : Int) := of_decide_eq_true (by first | (with_reducible assumption) | assumption)
                  have q113 : x3_1 < (l0.length : Int) := of_decide_eq_true (by first | (with_reducible assumption) | assumption)
                  obtain ⟨ad113, e113, hx113_0, hx113_1, hx113_2, hx113_3, hx113_4, hx113_5, hx113_6, hx113_7, hx113_8⟩ := at_T135 HR0.out x3_1 p113 q113
                  have hw113_8 := hx113_8
                  have hw113_7 := hx113_7
                  have hw113_6 := hx113_6
                  have hw113_5 := hx113_5
                  have hw113_4 := hx113_4
                  have hw113_3 := hx113_3
                  have hw113_2 := hx113_2
                  have hw113_1 := hx113_1
                  have hw113_0 := hx113_0
                  cases e113
                  replace hx113_0 := (HB.out.cell (World.block_lt_of_cell? w _ hx113_0)).trans hx113_0
                  replace hx113_1 := (HB.out.cell (World.block_lt_of_cell? w _ hx113_1)).trans hx113_1
                  replace hx113_2 := (HB.out.cell (World.block_lt_of_cell? w _ hx113_2)).trans hx113_2
                  replace hx113_3 := (HB.out.cell (World.block_lt_of_cell? w _ hx113_3)).trans hx113_3
                  replace hx113_4 := (HB.out.cell (World.block_lt_of_cell? w _ hx113_4)).trans hx113_4
                  replace hx113_5 := (HB.out.cell (World.block_lt_of_cell? w _ hx113_5)).trans hx113_5
                  replace hx113_6 := (HB.out.cell (World.block_lt_of_cell? w _ hx113_6)).trans hx113_6
                  replace hx113_7 := (HB.out.cell (World.block_lt_of_cell? w _ hx113_7)).trans hx113_7
                  replace hx113_8 := (HB.out.cell (World.block_lt_of_cell? w _ hx113_8)).trans hx113_8
                  replace p113 := eq_true p113
                  replace q113 := eq_true q113
                  have p115 : 0 ≤ (x3_1 : Int) := of_decide_eq_true (by first | (with_reducible assumption) | assumption)
                  have q115 : x3_1 < (l0.length : Int) := of_decide_eq_true (by first | (with_reducible assumption) | assumption)
                  obtain ⟨ad115, e115, hx115_0, hx115_1, hx115_2, hx115_3, hx115_4, hx115_5, hx115_6, hx115_7, hx115_8⟩ := at_T135 HR0.out x3_1 p115 q115
                  have hw115_8 := hx115_8
                  have hw115_7 := hx115_7
                  have hw115_6 := hx115_6
                  have hw115_5 := hx115_5
                  have hw115_4 := hx115_4
                  have hw115_3 := hx115_3
                  have hw115_2 := hx115_2
                  have hw115_1 := hx115_1
                  have hw115_0 := hx115_0
                  obtain rfl : ad113 = ad115 := (by injection e115)
                  replace hx115_0 := (HB.out.cell (World.block_lt_of_cell? w _ hx115_0)).trans hx115_0
                  replace hx115_1 := (HB.out.cell (World.block_lt_of_cell? w _ hx115_1)).trans hx115_1
                  replace hx115_2 := (HB.out.cell (World.block_lt_of_cell? w _ hx115_2)).trans hx115_2
                  replace hx115_3 := (HB.out.cell (World.block_lt_of_cell? w _ hx115_3)).trans hx115_3
                  replace hx115_4 := (HB.out.cell (World.block_lt_of_cell? w _ hx115_4)).trans hx115_4
                  replace hx115_5 := (HB.out.cell (World.block_lt_of_cell? w _ hx115_5)).trans hx115_5
                  replace hx115_6 := (HB.out.cell (World.block_lt_of_cell? w _ hx115_6)).trans hx115_6
                  replace hx115_7 := (HB.out.cell (World.block_lt_of_cell? w _ hx115_7)).trans hx115_7
                  replace hx115_8 := (HB.out.cell (World.block_lt_of_cell? w _ hx115_8)).trans hx115_8
                  replace p115 := eq_true p115
                  replace q115 := eq_true q115
                  refine start_ (n := 33) (S := fun w' => w'.cell? (ad113.add ((x3_1).toNat * 9)) = some (.int .i64 ((rd_T135 l0 x3_1).f0)) ∧ w'.cell? ⟨(ad113.add ((x3_1).toNat * 9)).block, (ad113.add ((x3_1).toNat * 9)).off + 1, none⟩ = some (.bool ((rd_T135 l0 x3_1).f1)) ∧ w'.cell? ⟨(ad113.add ((x3_1).toNat * 9)).block, (ad113.add ((x3_1).toNat * 9)).off + 2, none⟩ = some (.int .i64 ((rd_T135 l0 x3_1).f2.f0)) ∧ w'.cell? ⟨(ad113.add ((x3_1).toNat * 9)).block, (ad113.add ((x3_1).toNat * 9)).off + 3, none⟩ = some (.int .i64 ((rd_T135 l0 x3_1).f2.f1)) ∧ w'.cell? ⟨(ad113.add ((x3_1).toNat * 9)).block, (ad113.add ((x3_1).toNat * 9)).off + 4, none⟩ = some (.int .i64 ((rd_T135 l0 x3_1).f2.f2)) ∧ w'.cell? ⟨(ad113.add ((x3_1).toNat * 9)).block, (ad113.add ((x3_1).toNat * 9)).off + 5, none⟩ = some (.int .i64 ((rd_T135 l0 x3_1).f2.f3)) ∧ w'.cell? ⟨(ad113.add ((x3_1).toNat * 9)).block, (ad113.add ((x3_1).toNat * 9)).off + 6, none⟩ = some (.int .i64 ((rd_T135 l0 x3_1).f2.f4)) ∧ w'.cell? ⟨(ad113.add ((x3_1).toNat * 9)).block, (ad113.add ((x3_1).toNat * 9)).off + 7, none⟩ = some (.int .i64 ((rd_T135 l0 x3_1).f2.f5)) ∧ w'.cell? ⟨(ad113.add ((x3_1).toNat * 9)).block, (ad113.add ((x3_1).toNat * 9)).off + 8, none⟩ = some (.bool ((rd_T135 l0 x3_1).f2.f6)) ∧ w'.cell? (ad113.add ((x3_1).toNat * 9)) = some (.int .i64 ((rd_T135 l0 x3_1).f0)) ∧ w'.cell? ⟨(ad113.add ((x3_1).toNat * 9)).block, (ad113.add ((x3_1).toNat * 9)).off + 1, none⟩ = some (.bool ((rd_T135 l0 x3_1).f1)) ∧ w'.cell? ⟨(ad113.add ((x3_1).toNat * 9)).block, (ad113.add ((x3_1).toNat * 9)).off + 2, none⟩ = some (.int .i64 ((rd_T135 l0 x3_1).f2.f0)) ∧ w'.cell? ⟨(ad113.add ((x3_1).toNat * 9)).block, (ad113.add ((x3_1).toNat * 9)).off + 3, none⟩ = some (.int .i64 ((rd_T135 l0 x3_1).f2.f1)) ∧ w'.cell? ⟨(ad113.add ((x3_1).toNat * 9)).block, (ad113.add ((x3_1).toNat * 9)).off + 4, none⟩ = some (.int .i64 ((rd_T135 l0 x3_1).f2.f2)) ∧ w'.cell? ⟨(ad113.add ((x3_1).toNat * 9)).block, (ad113.add ((x3_1).toNat * 9)).off + 5, none⟩ = some (.int .i64 ((rd_T135 l0 x3_1).f2.f3)) ∧ w'.cell? ⟨(ad113.add ((x3_1).toNat * 9)).block, (ad113.add ((x3_1).toNat * 9)).off + 6, none⟩ = some (.int .i64 ((rd_T135 l0 x3_1).f2.f4)) ∧ w'.cell? ⟨(ad113.add ((x3_1).toNat * 9)).block, (ad113.add ((x3_1).toNat * 9)).off + 7, none⟩ = some (.int .i64 ((rd_T135 l0 x3_1).f2.f5)) ∧ w'.cell? ⟨(ad113.add ((x3_1).toNat * 9)).block, (ad113.add ((x3_1).toNat * 9)).off + 8, none⟩ = some (.bool ((rd_T135 l0 x3_1).f2.f6))) (ds := []) #[false, false, false, false, false, false, false, false, false, false, false, false, false, false, false, false, false, false, false, false, false, false, false, false, false, false, false, false, false, false, false, false, false] (by kernel_rfl) rfl rfl ⟨((HB.out.cell (World.block_lt_of_cell? _ _ hw113_0)).trans hw113_0), ((HB.out.cell (World.block_lt_of_cell? _ _ hw113_1)).trans hw113_1), ((HB.out.cell (World.block_lt_of_cell? _ _ hw113_2)).trans hw113_2), ((HB.out.cell (World.block_lt_of_cell? _ _ hw113_3)).trans hw113_3), ((HB.out.cell (World.block_lt_of_cell? _ _ hw113_4)).trans hw113_4), ((HB.out.cell (World.block_lt_of_cell? _ _ hw113_5)).trans hw113_5), ((HB.out.cell (World.block_lt_of_cell? _ _ hw113_6)).trans hw113_6), ((HB.out.cell (World.block_lt_of_cell? _ _ hw113_7)).trans hw113_7), ((HB.out.cell (World.block_lt_of_cell? _ _ hw113_8)).trans hw113_8), ((HB.out.cell (World.block_lt_of_cell? _ _ hw115_0)).trans hw115_0), ((HB.out.cell (World.block_lt_of_cell? _ _ hw115_1)).trans hw115_1), ((HB.out.cell (World.block_lt_of_cell? _ _ hw115_2)).trans hw115_2), ((HB.out.cell (World.block_lt_of_cell? _ _ hw115_3)).trans hw115_3), ((HB.out.cell (World.block_lt_of_cell? _ _ hw115_4)).trans hw115_4), ((HB.out.cell (World.block_lt_of_cell? _ _ hw115_5)).trans hw115_5), ((HB.out.cell (World.block_lt_of_cell? _ _ hw115_6)).trans hw115_6), ((HB.out.cell (World.block_lt_of_cell? _ _ hw115_7)).trans hw115_7), ((HB.out.cell (World.block_lt_of_cell? _ _ hw115_8)).trans hw115_8)⟩ (fun hHeld => ?_); refine with_tabW spec_RibRight.tab6 spec_RibRight.bits6 (fun HT_ HW_ => ?_)
                  generalize wr.drew = w21 at HB hx113_0 hx113_1 hx113_2 hx113_3 hx113_4 hx113_5 hx113_6 hx113_7 hx113_8 hx115_0 hx115_1 hx115_2 hx115_3 hx115_4 hx115_5 hx115_6 hx115_7 hx115_8 hHeld ⊢
                  refine pure_ (i := 0) (N := some 13) (v := ?_) (a' := ?_) #[true, false, false, false, false, false, false, false, false, false, false, false, false, false, false, false, false, false, false, false, false, false, false, false, false, false, false, false, false, false, false, false, false] rfl rfl (any_of HT_.out (by kernel_rfl)) (fun _ _ _ h => h) (Or.inl ⟨by rfl, ?_⟩) ?_ ?_
                  rotate_left
                  · intro w'
                    go_simp
                    with_reducible rfl
                  rotate_left
                  · simp only [Act.put, List.setIfInBounds_toArray, List.set_cons_zero, List.set_cons_succ, i64_w, i32_w]
                    rfl
                  refine pure_ (i := 1) (N := some 14) (v := ?_) (a' := ?_) #[true, true, false, false, false, false, false, false, false, false, false, false, false, false, false, false, false, false, false, false, false, false, false, false, false, false, false, false, false, false, false, false, false] rfl rfl (any_of HT_.out (by kernel_rfl)) (fun _ _ _ h => h) (Or.inl ⟨by rfl, ?_⟩) ?_ ?_
                  rotate_left
                  · intro w'
                    go_simp
                    with_reducible rfl
                  rotate_left
                  · simp only [Act.put, List.setIfInBounds_toArray, List.set_cons_zero, List.set_cons_succ, i64_w, i32_w]
                    rfl
                  refine pure_ (i := 2) (N := some 15) (v := ?_) (a' := ?_) #[true, true, true, false, false, false, false, false, false, false, false, false, false, false, false, false, false, false, false, false, false, false, false, false, false, false, false, false, false, false, false, false, false] rfl rfl (any_of HT_.out (by kernel_rfl)) (fun _ _ _ h => h) (Or.inl ⟨by rfl, ?_⟩) ?_ ?_
                  rotate_left
                  · intro w'
                    go_simp
                    with_reducible rfl
                  rotate_left
                  · simp only [Act.put, List.setIfInBounds_toArray, List.set_cons_zero, List.set_cons_succ, i64_w, i32_w]
                    rfl
                  refine pure_ (i := 3) (N := some 16) (v := ?_) (a' := ?_) #[true, true, true, true, false, false, false, false, false, false, false, false, false, false, false, false, false, false, false, false, false, false, false, false, false, false, false, false, false, false, false, false, false] rfl rfl (any_of HT_.out (by kernel_rfl)) (fun _ _ _ h => h) (Or.inl ⟨by rfl, ?_⟩) ?_ ?_
                  rotate_left
                  · intro w'
                    go_simp
                    with_reducible rfl
                  rotate_left
                  · simp only [Act.put, List.setIfInBounds_toArray, List.set_cons_zero, List.set_cons_succ, i64_w, i32_w]
                    rfl
                  refine take_ (i := 4) (N := some 17) (v := ?_) (a' := ?_) #[true, true, true, true, true, false, false, false, false, false, false, false, false, false, false, false, false, false, false, false, false, false, false, false, false, false, false, false, false, false, false, false, false] rfl rfl (take_ofW HT_.out HW_.out (by kernel_rfl)) (fun _ _ _ h => h) (Or.inl ⟨by rfl, ?_⟩) hHeld ?_ ?_
                  rotate_left
                  · rintro w' ⟨s0, s1, s2, s3, s4, s5, s6, s7, s8, s9, s10, s11, s12, s13, s14, s15, s16, s17⟩
                    go_simp
                    with_reducible rfl
                  rotate_left
                  · simp only [Act.put, List.setIfInBounds_toArray, List.set_cons_zero, List.set_cons_succ, i64_w, i32_w]
                    rfl
                  refine one_ (i := 5) (N := some 18) #[true, true, true, true, true, true, false, false, false, false, false, false, false, false, false, false, false, false, false, false, false, false, false, false, false, false, false, false, false, false, false, false, false] rfl rfl (one_of HT_.out (by kernel_rfl)) (by decide) (fun K hK => ?_)
                  refine goes_ Try.func120 (by kernel_rfl) rfl #[.int .i64 ((rd_T135 l0 x3_1).f0)] (by rfl) rfl rfl (by (try simp only [List.map_toArray, List.map_cons, List.map_nil]); first | done | rfl | (simp only [List.length_drop, List.length_take]; rfl)) ?_
                  with_reducible refine (spec_l06Peer.calls ((rd_T135 l0 x3_1).f0) true _ A5.out).mono ?_
                  rintro e w' ⟨rfl, ⟨nd, rfl⟩⟩
                  refine ⟨_, rfl, ?_⟩
                  refine hK.out _ _ ⟨((HB.out.cell (World.block_lt_of_cell? _ _ hw113_0)).trans hw113_0), ((HB.out.cell (World.block_lt_of_cell? _ _ hw113_1)).trans hw113_1), ((HB.out.cell (World.block_lt_of_cell? _ _ hw113_2)).trans hw113_2), ((HB.out.cell (World.block_lt_of_cell? _ _ hw113_3)).trans hw113_3), ((HB.out.cell (World.block_lt_of_cell? _ _ hw113_4)).trans hw113_4), ((HB.out.cell (World.block_lt_of_cell? _ _ hw113_5)).trans hw113_5), ((HB.out.cell (World.block_lt_of_cell? _ _ hw113_6)).trans hw113_6), ((HB.out.cell (World.block_lt_of_cell? _ _ hw113_7)).trans hw113_7), ((HB.out.cell (World.block_lt_of_cell? _ _ hw113_8)).trans hw113_8), ((HB.out.cell (World.block_lt_of_cell? _ _ hw115_0)).trans hw115_0), ((HB.out.cell (World.block_lt_of_cell? _ _ hw115_1)).trans hw115_1), ((HB.out.cell (World.block_lt_of_cell? _ _ hw115_2)).trans hw115_2), ((HB.out.cell (World.block_lt_of_cell? _ _ hw115_3)).trans hw115_3), ((HB.out.cell (World.block_lt_of_cell? _ _ hw115_4)).trans hw115_4), ((HB.out.cell (World.block_lt_of_cell? _ _ hw115_5)).trans hw115_5), ((HB.out.cell (World.block_lt_of_cell? _ _ hw115_6)).trans hw115_6), ((HB.out.cell (World.block_lt_of_cell? _ _ hw115_7)).trans hw115_7), ((HB.out.cell (World.block_lt_of_cell? _ _ hw115_8)).trans hw115_8)⟩ (fun hHeld => ?_)
                  clear hK K
                  refine norm_ (a' := ?_) ?_ ?_
                  rotate_left
                  · show Act.put _ (some 18) _ = _
                    simp only [Act.put, List.setIfInBounds_toArray, List.set_cons_zero, List.set_cons_succ, i64_w, i32_w]
                    rfl
                  refine pure_ (i := 6) (N := some 19) (v := ?_) (a' := ?_) #[true, true, true, true, true, true, true, false, false, false, false, false, false, false, false, false, false, false, false, false, false, false, false, false, false, false, false, false, false, false, false, false, false] rfl rfl (any_of HT_.out (by kernel_rfl)) (fun _ _ _ h => h) (Or.inl ⟨by rfl, ?_⟩) ?_ ?_
                  rotate_left
                  · intro w'
                    go_simp
                    with_reducible rfl
                  rotate_left
                  · simp only [Act.put, List.setIfInBounds_toArray, List.set_cons_zero, List.set_cons_succ, i64_w, i32_w]
                    rfl
                  refine pure_ (i := 7) (N := some 20) (v := ?_) (a' := ?_) #[true, true, true, true, true, true, true, true, false, false, false, false, false, false, false, false, false, false, false, false, false, false, false, false, false, false, false, false, false, false, false, false, false] rfl rfl (any_of HT_.out (by kernel_rfl)) (fun _ _ _ h => h) (Or.inl ⟨by rfl, ?_⟩) ?_ ?_
                  rotate_left
                  · intro w'
                    go_simp
                    with_reducible rfl
                  rotate_left
                  · simp only [Act.put, List.setIfInBounds_toArray, List.set_cons_zero, List.set_cons_succ, i64_w, i32_w]
                    rfl
                  refine pure_ (i := 8) (N := some 21) (v := ?_) (a' := ?_) #[true, true, true, true, true, true, true, true, true, false, false, false, false, false, false, false, false, false, false, false, false, false, false, false, false, false, false, false, false, false, false, false, false] rfl rfl (any_of HT_.out (by kernel_rfl)) (fun _ _ _ h => h) (Or.inl ⟨by rfl, ?_⟩) ?_ ?_
                  rotate_left
                  · intro w'
                    go_simp
                    with_reducible rfl
                  rotate_left
                  · simp only [Act.put, List.setIfInBounds_toArray, List.set_cons_zero, List.set_cons_succ, i64_w, i32_w]
                    rfl
                  refine pure_ (i := 9) (N := some 22) (v := ?_) (a' := ?_) #[true, true, true, true, true, true, true, true, true, true, false, false, false, false, false, false, false, false, false, false, false, false, false, false, false, false, false, false, false, false, false, false, false] rfl rfl (any_of HT_.out (by kernel_rfl)) (fun _ _ _ h => h) (Or.inl ⟨by rfl, ?_⟩) ?_ ?_
                  rotate_left
                  · intro w'
                    go_simp
                    with_reducible rfl
                  rotate_left
                  · simp only [Act.put, List.setIfInBounds_toArray, List.set_cons_zero, List.set_cons_succ, i64_w, i32_w]
                    rfl
                  refine pure_ (i := 10) (N := some 23) (v := ?_) (a' := ?_) #[true, true, true, true, true, true, true, true, true, true, true, false, false, false, false, false, false, false, false, false, false, false, false, false, false, false, false, false, false, false, false, false, false] rfl rfl (any_of HT_.out (by kernel_rfl)) (fun _ _ _ h => h) (Or.inl ⟨by rfl, ?_⟩) ?_ ?_
                  rotate_left
                  · intro w'
                    go_simp
                    with_reducible rfl
                  rotate_left
                  · simp only [Act.put, List.setIfInBounds_toArray, List.set_cons_zero, List.set_cons_succ, i64_w, i32_w]
                    rfl
                  refine pure_ (i := 11) (N := some 24) (v := ?_) (a' := ?_) #[true, true, true, true, true, true, true, true, true, true, true, true, false, false, false, false, false, false, false, false, false, false, false, false, false, false, false, false, false, false, false, false, false] rfl rfl (any_of HT_.out (by kernel_rfl)) (fun _ _ _ h => h) (Or.inl ⟨by rfl, ?_⟩) ?_ ?_
                  rotate_left
                  · intro w'
                    go_simp
                    with_reducible rfl
                  rotate_left
                  · simp only [Act.put, List.setIfInBounds_toArray, List.set_cons_zero, List.set_cons_succ, i64_w, i32_w]
                    rfl
                  refine take_ (i := 12) (N := some 25) (v := ?_) (a' := ?_) #[true, true, true, true, true, true, true, true, true, true, true, true, true, false, false, false, false, false, false, false, false, false, false, false, false, false, false, false, false, false, false, false, false] rfl rfl (take_ofW HT_.out HW_.out (by kernel_rfl)) (fun _ _ _ h => h) (Or.inl ⟨by rfl, ?_⟩) hHeld ?_ ?_
                  rotate_left
                  · rintro w' ⟨s0, s1, s2, s3, s4, s5, s6, s7, s8, s9, s10, s11, s12, s13, s14, s15, s16, s17⟩
                    go_simp
                    with_reducible rfl
                  rotate_left
                  · simp only [Act.put, List.setIfInBounds_toArray, List.set_cons_zero, List.set_cons_succ, i64_w, i32_w]
                    rfl
                  refine one_ (i := 13) (N := some 26) #[true, true, true, true, true, true, true, true, true, true, true, true, true, true, false, false, false, false, false, false, false, false, false, false, false, false, false, false, false, false, false, false, false] rfl rfl (one_of HT_.out (by kernel_rfl)) (by decide) (fun K hK => ?_)
                  refine goes_ Try.func101 (by kernel_rfl) rfl #[.agg #[.int .i64 ((rd_T135 l0 x3_1).f2.f0), .int .i64 ((rd_T135 l0 x3_1).f2.f1), .int .i64 ((rd_T135 l0 x3_1).f2.f2), .int .i64 ((rd_T135 l0 x3_1).f2.f3), .int .i64 ((rd_T135 l0 x3_1).f2.f4), .int .i64 ((rd_T135 l0 x3_1).f2.f5), .bool ((rd_T135 l0 x3_1).f2.f6)]] (by rfl) rfl rfl (by (try simp only [List.map_toArray, List.map_cons, List.map_nil]); first | done | rfl | (simp only [List.length_drop, List.length_take]; rfl)) ?_
                  with_reducible refine (spec_RouteRight.calls k1 ((rd_T135 l0 x3_1).f2.f0) ((rd_T135 l0 x3_1).f2.f1) ((rd_T135 l0 x3_1).f2.f2) ((rd_T135 l0 x3_1).f2.f3) ((rd_T135 l0 x3_1).f2.f4) ((rd_T135 l0 x3_1).f2.f5) ((rd_T135 l0 x3_1).f2.f6) true _ A7.out).mono ?_
                  rintro e w22 ⟨rfl, hb⟩
                  refine ⟨_, rfl, ?_⟩
                  have n0_ := Aside0.mk (below_step (by repeat (first | (with_reducible first | exact HB.out | apply below_alloc | apply pw_below_drewN | apply below_drew1) | exact HB.out)) hb)
                  clear HB
                  have HB := n0_
                  clear n0_
                  (try clear hb)
                  (try clear hb2)
                  (try clear hk)
                  (try clear hi)
                  refine hK.out _ _ ⟨((HB.out.cell (World.block_lt_of_cell? _ _ hw113_0)).trans hw113_0), ((HB.out.cell (World.block_lt_of_cell? _ _ hw113_1)).trans hw113_1), ((HB.out.cell (World.block_lt_of_cell? _ _ hw113_2)).trans hw113_2), ((HB.out.cell (World.block_lt_of_cell? _ _ hw113_3)).trans hw113_3), ((HB.out.cell (World.block_lt_of_cell? _ _ hw113_4)).trans hw113_4), ((HB.out.cell (World.block_lt_of_cell? _ _ hw113_5)).trans hw113_5), ((HB.out.cell (World.block_lt_of_cell? _ _ hw113_6)).trans hw113_6), ((HB.out.cell (World.block_lt_of_cell? _ _ hw113_7)).trans hw113_7), ((HB.out.cell (World.block_lt_of_cell? _ _ hw113_8)).trans hw113_8), ((HB.out.cell (World.block_lt_of_cell? _ _ hw115_0)).trans hw115_0), ((HB.out.cell (World.block_lt_of_cell? _ _ hw115_1)).trans hw115_1), ((HB.out.cell (World.block_lt_of_cell? _ _ hw115_2)).trans hw115_2), ((HB.out.cell (World.block_lt_of_cell? _ _ hw115_3)).trans hw115_3), ((HB.out.cell (World.block_lt_of_cell? _ _ hw115_4)).trans hw115_4), ((HB.out.cell (World.block_lt_of_cell? _ _ hw115_5)).trans hw115_5), ((HB.out.cell (World.block_lt_of_cell? _ _ hw115_6)).trans hw115_6), ((HB.out.cell (World.block_lt_of_cell? _ _ hw115_7)).trans hw115_7), ((HB.out.cell (World.block_lt_of_cell? _ _ hw115_8)).trans hw115_8)⟩ (fun hHeld => ?_)
                  clear hK K
                  refine norm_ (a' := ?_) ?_ ?_
                  rotate_left
                  · show Act.put _ (some 26) _ = _
                    simp only [Act.put, List.setIfInBounds_toArray, List.set_cons_zero, List.set_cons_succ, i64_w, i32_w]
                    rfl
                  refine pure_ (i := 14) (N := some 27) (v := ?_) (a' := ?_) #[true, true, true, true, true, true, true, true, true, true, true, true, true, true, true, false, false, false, false, false, false, false, false, false, false, false, false, false, false, false, false, false, false] rfl rfl (any_of HT_.out (by kernel_rfl)) (fun _ _ _ h => h) (Or.inl ⟨by rfl, ?_⟩) ?_ ?_
                  rotate_left
                  · intro w'
                    go_simp
                    with_reducible rfl
                  rotate_left
                  · simp only [Act.put, List.setIfInBounds_toArray, List.set_cons_zero, List.set_cons_succ, i64_w, i32_w]
                    rfl
                  refine pure_ (i := 15) (N := some 28) (v := ?_) (a' := ?_) #[true, true, true, true, true, true, true, true, true, true, true, true, true, true, true, true, false, false, false, false, false, false, false, false, false, false, false, false, false, false, false, false, false] rfl rfl (any_of HT_.out (by kernel_rfl)) (fun _ _ _ h => h) (Or.inl ⟨by rfl, ?_⟩) ?_ ?_
                  rotate_left
                  · intro w'
                    go_simp
                    with_reducible rfl
                  rotate_left
                  · simp only [Act.put, List.setIfInBounds_toArray, List.set_cons_zero, List.set_cons_succ, i64_w, i32_w]
                    rfl
                  refine pure_ (i := 16) (N := some 29) (v := ?_) (a' := ?_) #[true, true, true, true, true, true, true, true, true, true, true, true, true, true, true, true, true, false, false, false, false, false, false, false, false, false, false, false, false, false, false, false, false] rfl rfl (any_of HT_.out (by kernel_rfl)) (fun _ _ _ h => h) (Or.inl ⟨by rfl, ?_⟩) ?_ ?_
                  rotate_left
                  · intro w'
                    go_simp
                    with_reducible rfl
                  rotate_left
                  · simp only [Act.put, List.setIfInBounds_toArray, List.set_cons_zero, List.set_cons_succ, i64_w, i32_w]
                    rfl
                  refine pure_ (i := 17) (N := some 30) (v := ?_) (a' := ?_) #[true, true, true, true, true, true, true, true, true, true, true, true, true, true, true, true, true, true, false, false, false, false, false, false, false, false, false, false, false, false, false, false, false] rfl rfl (any_of HT_.out (by kernel_rfl)) (fun _ _ _ h => h) (Or.inl ⟨by rfl, ?_⟩) ?_ ?_
                  rotate_left
                  · intro w'
                    go_simp
                    with_reducible rfl
                  rotate_left
                  · simp only [Act.put, List.setIfInBounds_toArray, List.set_cons_zero, List.set_cons_succ, i64_w, i32_w]
                    rfl
                  refine pure_ (i := 18) (N := some 31) (v := ?_) (a' := ?_) #[true, true, true, true, true, true, true, true, true, true, true, true, true, true, true, true, true, true, true, false, false, false, false, false, false, false, false, false, false, false, false, false, false] rfl rfl (any_of HT_.out (by kernel_rfl)) (fun _ _ _ h => h) (Or.inl ⟨by rfl, ?_⟩) ?_ ?_
                  rotate_left
                  · intro w'
                    go_simp
                    with_reducible rfl
                  rotate_left
                  · simp only [Act.put, List.setIfInBounds_toArray, List.set_cons_zero, List.set_cons_succ, i64_w, i32_w]
                    rfl
                  refine pure_ (i := 19) (N := some 32) (v := ?_) (a' := ?_) #[true, true, true, true, true, true, true, true, true, true, true, true, true, true, true, true, true, true, true, true, false, false, false, false, false, false, false, false, false, false, false, false, false] rfl rfl (any_of HT_.out (by kernel_rfl)) (fun _ _ _ h => h) (Or.inl ⟨by rfl, ?_⟩) ?_ ?_
                  rotate_left
                  · intro w'
                    go_simp
                    with_reducible rfl
                  rotate_left
                  · simp only [Act.put, List.setIfInBounds_toArray, List.set_cons_zero, List.set_cons_succ, i64_w, i32_w]
                    rfl
                  refine pure_ (i := 20) (N := some 33) (v := undef) (a' := ?_) #[true, true, true, true, true, true, true, true, true, true, true, true, true, true, true, true, true, true, true, true, true, false, false, false, false, false, false, false, false, false, false, false, false] rfl rfl (any_of HT_.out (by kernel_rfl)) (fun _ _ _ h => h) (Or.inr ⟨by rfl, rfl⟩) ?_ ?_
                  rotate_left
                  · simp only [Act.put, List.setIfInBounds_toArray, List.set_cons_zero, List.set_cons_succ, i64_w, i32_w]
                    rfl
                  refine pure_ (i := 21) (N := some 34) (v := undef) (a' := ?_) #[true, true, true, true, true, true, true, true, true, true, true, true, true, true, true, true, true, true, true, true, true, true, false, false, false, false, false, false, false, false, false, false, false] rfl rfl (any_of HT_.out (by kernel_rfl)) (fun _ _ _ h => h) (Or.inr ⟨by rfl, rfl⟩) ?_ ?_
                  rotate_left
                  · simp only [Act.put, List.setIfInBounds_toArray, List.set_cons_zero, List.set_cons_succ, i64_w, i32_w]
                    rfl
                  refine pure_ (i := 22) (N := some 35) (v := undef) (a' := ?_) #[true, true, true, true, true, true, true, true, true, true, true, true, true, true, true, true, true, true, true, true, true, true, true, false, false, false, false, false, false, false, false, false, false] rfl rfl (any_of HT_.out (by kernel_rfl)) (fun _ _ _ h => h) (Or.inr ⟨by rfl, rfl⟩) ?_ ?_
                  rotate_left
                  · simp only [Act.put, List.setIfInBounds_toArray, List.set_cons_zero, List.set_cons_succ, i64_w, i32_w]
                    rfl
                  refine pure_ (i := 23) (N := some 36) (v := undef) (a' := ?_) #[true, true, true, true, true, true, true, true, true, true, true, true, true, true, true, true, true, true, true, true, true, true, true, true, false, false, false, false, false, false, false, false, false] rfl rfl (any_of HT_.out (by kernel_rfl)) (fun _ _ _ h => h) (Or.inr ⟨by rfl, rfl⟩) ?_ ?_
                  rotate_left
                  · simp only [Act.put, List.setIfInBounds_toArray, List.set_cons_zero, List.set_cons_succ, i64_w, i32_w]
                    rfl
                  refine pure_ (i := 24) (N := some 37) (v := undef) (a' := ?_) #[true, true, true, true, true, true, true, true, true, true, true, true, true, true, true, true, true, true, true, true, true, true, true, true, true, false, false, false, false, false, false, false, false] rfl rfl (any_of HT_.out (by kernel_rfl)) (fun _ _ _ h => h) (Or.inr ⟨by rfl, rfl⟩) ?_ ?_
                  rotate_left
                  · simp only [Act.put, List.setIfInBounds_toArray, List.set_cons_zero, List.set_cons_succ, i64_w, i32_w]
                    rfl
                  refine pure_ (i := 25) (N := some 38) (v := undef) (a' := ?_) #[true, true, true, true, true, true, true, true, true, true, true, true, true, true, true, true, true, true, true, true, true, true, true, true, true, true, false, false, false, false, false, false, false] rfl rfl (any_of HT_.out (by kernel_rfl)) (fun _ _ _ h => h) (Or.inr ⟨by rfl, rfl⟩) ?_ ?_
                  rotate_left
                  · simp only [Act.put, List.setIfInBounds_toArray, List.set_cons_zero, List.set_cons_succ, i64_w, i32_w]
                    rfl
                  refine pure_ (i := 26) (N := some 39) (v := undef) (a' := ?_) #[true, true, true, true, true, true, true, true, true, true, true, true, true, true, true, true, true, true, true, true, true, true, true, true, true, true, true, false, false, false, false, false, false] rfl rfl (any_of HT_.out (by kernel_rfl)) (fun _ _ _ h => h) (Or.inr ⟨by rfl, rfl⟩) ?_ ?_
                  rotate_left
                  · simp only [Act.put, List.setIfInBounds_toArray, List.set_cons_zero, List.set_cons_succ, i64_w, i32_w]
                    rfl
                  refine pure_ (i := 27) (N := some 40) (v := undef) (a' := ?_) #[true, true, true, true, true, true, true, true, true, true, true, true, true, true, true, true, true, true, true, true, true, true, true, true, true, true, true, true, false, false, false, false, false] rfl rfl (any_of HT_.out (by kernel_rfl)) (fun _ _ _ h => h) (Or.inr ⟨by rfl, rfl⟩) ?_ ?_
                  rotate_left
                  · simp only [Act.put, List.setIfInBounds_toArray, List.set_cons_zero, List.set_cons_succ, i64_w, i32_w]
                    rfl
                  refine pure_ (i := 28) (N := some 41) (v := undef) (a' := ?_) #[true, true, true, true, true, true, true, true, true, true, true, true, true, true, true, true, true, true, true, true, true, true, true, true, true, true, true, true, true, false, false, false, false] rfl rfl (any_of HT_.out (by kernel_rfl)) (fun _ _ _ h => h) (Or.inr ⟨by rfl, rfl⟩) ?_ ?_
                  rotate_left
                  · simp only [Act.put, List.setIfInBounds_toArray, List.set_cons_zero, List.set_cons_succ, i64_w, i32_w]
                    rfl
                  refine pure_ (i := 29) (N := some 42) (v := undef) (a' := ?_) #[true, true, true, true, true, true, true, true, true, true, true, true, true, true, true, true, true, true, true, true, true, true, true, true, true, true, true, true, true, true, false, false, false] rfl rfl (any_of HT_.out (by kernel_rfl)) (fun _ _ _ h => h) (Or.inr ⟨by rfl, rfl⟩) ?_ ?_
                  rotate_left
                  · simp only [Act.put, List.setIfInBounds_toArray, List.set_cons_zero, List.set_cons_succ, i64_w, i32_w]
                    rfl
                  refine pure_ (i := 30) (N := some 43) (v := undef) (a' := ?_) #[true, true, true, true, true, true, true, true, true, true, true, true, true, true, true, true, true, true, true, true, true, true, true, true, true, true, true, true, true, true, true, false, false] rfl rfl (any_of HT_.out (by kernel_rfl)) (fun _ _ _ h => h) (Or.inr ⟨by rfl, rfl⟩) ?_ ?_
                  rotate_left
                  · simp only [Act.put, List.setIfInBounds_toArray, List.set_cons_zero, List.set_cons_succ, i64_w, i32_w]
                    rfl
                  refine pure_ (i := 31) (N := some 44) (v := ?_) (a' := ?_) #[true, true, true, true, true, true, true, true, true, true, true, true, true, true, true, true, true, true, true, true, true, true, true, true, true, true, true, true, true, true, true, true, false] rfl rfl (any_of HT_.out (by kernel_rfl)) (fun _ _ _ h => h) (Or.inl ⟨by rfl, ?_⟩) ?_ ?_
                  rotate_left
                  · intro w'
                    go_simp
                    with_reducible rfl
                  rotate_left
                  · simp only [Act.put, List.setIfInBounds_toArray, List.set_cons_zero, List.set_cons_succ, i64_w, i32_w]
                    rfl
                  refine pure_ (i := 32) (N := some 45) (v := ?_) (a' := ?_) #[true, true, true, true, true, true, true, true, true, true, true, true, true, true, true, true, true, true, true, true, true, true, true, true, true, true, true, true, true, true, true, true, true] rfl rfl (any_of HT_.out (by kernel_rfl)) (fun _ _ _ h => h) (Or.inl ⟨by rfl, ?_⟩) ?_ ?_
                  rotate_left
                  · intro w'
                    go_simp
                    with_reducible rfl
                  rotate_left
                  · simp only [Act.put, List.setIfInBounds_toArray, List.set_cons_zero, List.set_cons_succ, i64_w, i32_w]
                    rfl
                  refine done_ (done_of HT_.out (by kernel_rfl)) ?_
                  try go_wp2
                  go_roundg k1
                  case measure => have := HK1.out; omega
                  case rel => exact ⟨(wrap64 (x3_1 + 1)), (by first | rfl | (simp; done) | (simp [*]; done)), H', ⟨by have := HK1.out; omega⟩, ⟨by repeat (first | (with_reducible first | exact HB.out | apply below_alloc | apply pw_below_drewN | apply below_drew1) | exact HB.out)⟩⟩
              · replace c8 := Bool.eq_false_iff.mpr c8
                subst c8
                have H1 : (some false) = some r := by rw [if_neg (show ¬ (false = true) by decide)] at H; exact H
                clear H
                have H := H1
                clear H1
                obtain rfl := Option.some.inj H
                try go_wp2
                have n0_ := Aside0.mk (below_drew1 HB.out)
                clear HB
                have HB := n0_
                clear n0_
                have p113 : 0 ≤ (x3_1 : Int) := of_decide_eq_true (by first | (with_reducible assumption) | assumption)
                have q113 : x3_1 < (l0.length : Int) := of_decide_eq_true (by first | (with_reducible assumption) | assumption)
                obtain ⟨ad113, e113, hx113_0, hx113_1, hx113_2, hx113_3, hx113_4, hx113_5, hx113_6, hx113_7, hx113_8⟩ := at_T135 HR0.out x3_1 p113 q113
                have hw113_8 := hx113_8
                have hw113_7 := hx113_7
                have hw113_6 := hx113_6
                have hw113_5 := hx113_5
                have hw113_4 := hx113_4
                have hw113_3 := hx113_3
                have hw113_2 := hx113_2
                have hw113_1 := hx113_1
                have hw113_0 := hx113_0
                cases e113
                replace hx113_0 := (HB.out.cell (World.block_lt_of_cell? w _ hx113_0)).trans hx113_0
                replace hx113_1 := (HB.out.cell (World.block_lt_of_cell? w _ hx113_1)).trans hx113_1
                replace hx113_2 := (HB.out.cell (World.block_lt_of_cell? w _ hx113_2)).trans hx113_2
                replace hx113_3 := (HB.out.cell (World.block_lt_of_cell? w _ hx113_3)).trans hx113_3
                replace hx113_4 := (HB.out.cell (World.block_lt_of_cell? w _ hx113_4)).trans hx113_4
                replace hx113_5 := (HB.out.cell (World.block_lt_of_cell? w _ hx113_5)).trans hx113_5
                replace hx113_6 := (HB.out.cell (World.block_lt_of_cell? w _ hx113_6)).trans hx113_6
                replace hx113_7 := (HB.out.cell (World.block_lt_of_cell? w _ hx113_7)).trans hx113_7
                replace hx113_8 := (HB.out.cell (World.block_lt_of_cell? w _ hx113_8)).trans hx113_8
                replace p113 := eq_true p113
                replace q113 := eq_true q113
                have p115 : 0 ≤ (x3_1 : Int) := of_decide_eq_true (by first | (with_reducible assumption) | assumption)
                have q115 : x3_1 < (l0.length : Int) := of_decide_eq_true (by first | (with_reducible assumption) | assumption)
                obtain ⟨ad115, e115, hx115_0, hx115_1, hx115_2, hx115_3, hx115_4, hx115_5, hx115_6, hx115_7, hx115_8⟩ := at_T135 HR0.out x3_1 p115 q115
                have hw115_8 := hx115_8
                have hw115_7 := hx115_7
                have hw115_6 := hx115_6
                have hw115_5 := hx115_5
                have hw115_4 := hx115_4
                have hw115_3 := hx115_3
                have hw115_2 := hx115_2
                have hw115_1 := hx115_1
                have hw115_0 := hx115_0
                obtain rfl : ad113 = ad115 := (by injection e115)
                replace hx115_0 := (HB.out.cell (World.block_lt_of_cell? w _ hx115_0)).trans hx115_0
                replace hx115_1 := (HB.out.cell (World.block_lt_of_cell? w _ hx115_1)).trans hx115_1
                replace hx115_2 := (HB.out.cell (World.block_lt_of_cell? w _ hx115_2)).trans hx115_2
                replace hx115_3 := (HB.out.cell (World.block_lt_of_cell? w _ hx115_3)).trans hx115_3
                replace hx115_4 := (HB.out.cell (World.block_lt_of_cell? w _ hx115_4)).trans hx115_4
                replace hx115_5 := (HB.out.cell (World.block_lt_of_cell? w _ hx115_5)).trans hx115_5
                replace hx115_6 := (HB.out.cell (World.block_lt_of_cell? w _ hx115_6)).trans hx115_6
                replace hx115_7 := (HB.out.cell (World.block_lt_of_cell? w _ hx115_7)).trans hx115_7
                replace hx115_8 := (HB.out.cell (World.block_lt_of_cell? w _ hx115_8)).trans hx115_8
                replace p115 := eq_true p115
                replace q115 := eq_true q115
                refine start_ (n := 33) (S := fun w' => w'.cell? (ad113.add ((x3_1).toNat * 9)) = some (.int .i64 ((rd_T135 l0 x3_1).f0)) ∧ w'.cell? ⟨(ad113.add ((x3_1).toNat * 9)).block, (ad113.add ((x3_1).toNat * 9)).off + 1, none⟩ = some (.bool ((rd_T135 l0 x3_1).f1)) ∧ w'.cell? ⟨(ad113.add ((x3_1).toNat * 9)).block, (ad113.add ((x3_1).toNat * 9)).off + 2, none⟩ = some (.int .i64 ((rd_T135 l0 x3_1).f2.f0)) ∧ w'.cell? ⟨(ad113.add ((x3_1).toNat * 9)).block, (ad113.add ((x3_1).toNat * 9)).off + 3, none⟩ = some (.int .i64 ((rd_T135 l0 x3_1).f2.f1)) ∧ w'.cell? ⟨(ad113.add ((x3_1).toNat * 9)).block, (ad113.add ((x3_1).toNat * 9)).off + 4, none⟩ = some (.int .i64 ((rd_T135 l0 x3_1).f2.f2)) ∧ w'.cell? ⟨(ad113.add ((x3_1).toNat * 9)).block, (ad113.add ((x3_1).toNat * 9)).off + 5, none⟩ = some (.int .i64 ((rd_T135 l0 x3_1).f2.f3)) ∧ w'.cell? ⟨(ad113.add ((x3_1).toNat * 9)).block, (ad113.add ((x3_1).toNat * 9)).off + 6, none⟩ = some (.int .i64 ((rd_T135 l0 x3_1).f2.f4)) ∧ w'.cell? ⟨(ad113.add ((x3_1).toNat * 9)).block, (ad113.add ((x3_1).toNat * 9)).off + 7, none⟩ = some (.int .i64 ((rd_T135 l0 x3_1).f2.f5)) ∧ w'.cell? ⟨(ad113.add ((x3_1).toNat * 9)).block, (ad113.add ((x3_1).toNat * 9)).off + 8, none⟩ = some (.bool ((rd_T135 l0 x3_1).f2.f6)) ∧ w'.cell? (ad113.add ((x3_1).toNat * 9)) = some (.int .i64 ((rd_T135 l0 x3_1).f0)) ∧ w'.cell? ⟨(ad113.add ((x3_1).toNat * 9)).block, (ad113.add ((x3_1).toNat * 9)).off + 1, none⟩ = some (.bool ((rd_T135 l0 x3_1).f1)) ∧ w'.cell? ⟨(ad113.add ((x3_1).toNat * 9)).block, (ad113.add ((x3_1).toNat * 9)).off + 2, none⟩ = some (.int .i64 ((rd_T135 l0 x3_1).f2.f0)) ∧ w'.cell? ⟨(ad113.add ((x3_1).toNat * 9)).block, (ad113.add ((x3_1).toNat * 9)).off + 3, none⟩ = some (.int .i64 ((rd_T135 l0 x3_1).f2.f1)) ∧ w'.cell? ⟨(ad113.add ((x3_1).toNat * 9)).block, (ad113.add ((x3_1).toNat * 9)).off + 4, none⟩ = some (.int .i64 ((rd_T135 l0 x3_1).f2.f2)) ∧ w'.cell? ⟨(ad113.add ((x3_1).toNat * 9)).block, (ad113.add ((x3_1).toNat * 9)).off + 5, none⟩ = some (.int .i64 ((rd_T135 l0 x3_1).f2.f3)) ∧ w'.cell? ⟨(ad113.add ((x3_1).toNat * 9)).block, (ad113.add ((x3_1).toNat * 9)).off + 6, none⟩ = some (.int .i64 ((rd_T135 l0 x3_1).f2.f4)) ∧ w'.cell? ⟨(ad113.add ((x3_1).toNat * 9)).block, (ad113.add ((x3_1).toNat * 9)).off + 7, none⟩ = some (.int .i64 ((rd_T135 l0 x3_1).f2.f5)) ∧ w'.cell? ⟨(ad113.add ((x3_1).toNat * 9)).block, (ad113.add ((x3_1).toNat * 9)).off + 8, none⟩ = some (.bool ((rd_T135 l0 x3_1).f2.f6))) (ds := []) #[false, false, false, false, false, false, false, false, false, false, false, false, false, false, false, false, false, false, false, false, false, false, false, false, false, false, false, false, false, false, false, false, false] (by kernel_rfl) rfl rfl ⟨((HB.out.cell (World.block_lt_of_cell? _ _ hw113_0)).trans hw113_0), ((HB.out.cell (World.block_lt_of_cell? _ _ hw113_1)).trans hw113_1), ((HB.out.cell (World.block_lt_of_cell? _ _ hw113_2)).trans hw113_2), ((HB.out.cell (World.block_lt_of_cell? _ _ hw113_3)).trans hw113_3), ((HB.out.cell (World.block_lt_of_cell? _ _ hw113_4)).trans hw113_4), ((HB.out.cell (World.block_lt_of_cell? _ _ hw113_5)).trans hw113_5), ((HB.out.cell (World.block_lt_of_cell? _ _ hw113_6)).trans hw113_6), ((HB.out.cell (World.block_lt_of_cell? _ _ hw113_7)).trans hw113_7), ((HB.out.cell (World.block_lt_of_cell? _ _ hw113_8)).trans hw113_8), ((HB.out.cell (World.block_lt_of_cell? _ _ hw115_0)).trans hw115_0), ((HB.out.cell (World.block_lt_of_cell? _ _ hw115_1)).trans hw115_1), ((HB.out.cell (World.block_lt_of_cell? _ _ hw115_2)).trans hw115_2), ((HB.out.cell (World.block_lt_of_cell? _ _ hw115_3)).trans hw115_3), ((HB.out.cell (World.block_lt_of_cell? _ _ hw115_4)).trans hw115_4), ((HB.out.cell (World.block_lt_of_cell? _ _ hw115_5)).trans hw115_5), ((HB.out.cell (World.block_lt_of_cell? _ _ hw115_6)).trans hw115_6), ((HB.out.cell (World.block_lt_of_cell? _ _ hw115_7)).trans hw115_7), ((HB.out.cell (World.block_lt_of_cell? _ _ hw115_8)).trans hw115_8)⟩ (fun hHeld => ?_); refine with_tabW spec_RibRight.tab6 spec_RibRight.bits6 (fun HT_ HW_ => ?_)
                generalize wr.drew = w23 at HB hx113_0 hx113_1 hx113_2 hx113_3 hx113_4 hx113_5 hx113_6 hx113_7 hx113_8 hx115_0 hx115_1 hx115_2 hx115_3 hx115_4 hx115_5 hx115_6 hx115_7 hx115_8 hHeld ⊢
                refine pure_ (i := 0) (N := some 13) (v := ?_) (a' := ?_) #[true, false, false, false, false, false, false, false, false, false, false, false, false, false, false, false, false, false, false, false, false, false, false, false, false, false, false, false, false, false, false, false, false] rfl rfl (any_of HT_.out (by kernel_rfl)) (fun _ _ _ h => h) (Or.inl ⟨by rfl, ?_⟩) ?_ ?_
                rotate_left
                · intro w'
                  go_simp
                  with_reducible rfl
                rotate_left
                · simp only [Act.put, List.setIfInBounds_toArray, List.set_cons_zero, List.set_cons_succ, i64_w, i32_w]
                  rfl
                refine pure_ (i := 1) (N := some 14) (v := ?_) (a' := ?_) #[true, true, false, false, false, false, false, false, false, false, false, false, false, false, false, false, false, false, false, false, false, false, false, false, false, false, false, false, false, false, false, false, false] rfl rfl (any_of HT_.out (by kernel_rfl)) (fun _ _ _ h => h) (Or.inl ⟨by rfl, ?_⟩) ?_ ?_
                rotate_left
                · intro w'
                  go_simp
                  with_reducible rfl
                rotate_left
                · simp only [Act.put, List.setIfInBounds_toArray, List.set_cons_zero, List.set_cons_succ, i64_w, i32_w]
                  rfl
                refine pure_ (i := 2) (N := some 15) (v := ?_) (a' := ?_) #[true, true, true, false, false, false, false, false, false, false, false, false, false, false, false, false, false, false, false, false, false, false, false, false, false, false, false, false, false, false, false, false, false] rfl rfl (any_of HT_.out (by kernel_rfl)) (fun _ _ _ h => h) (Or.inl ⟨by rfl, ?_⟩) ?_ ?_
                rotate_left
                · intro w'
                  go_simp
                  with_reducible rfl
                rotate_left
                · simp only [Act.put, List.setIfInBounds_toArray, List.set_cons_zero, List.set_cons_succ, i64_w, i32_w]
                  rfl
                refine pure_ (i := 3) (N := some 16) (v := ?_) (a' := ?_) #[true, true, true, true, false, false, false, false, false, false, false, false, false, false, false, false, false, false, false, false, false, false, false, false, false, false, false, false, false, false, false, false, false] rfl rfl (any_of HT_.out (by kernel_rfl)) (fun _ _ _ h => h) (Or.inl ⟨by rfl, ?_⟩) ?_ ?_
                rotate_left
                · intro w'
                  go_simp
                  with_reducible rfl
                rotate_left
                · simp only [Act.put, List.setIfInBounds_toArray, List.set_cons_zero, List.set_cons_succ, i64_w, i32_w]
                  rfl
                refine take_ (i := 4) (N := some 17) (v := ?_) (a' := ?_) #[true, true, true, true, true, false, false, false, false, false, false, false, false, false, false, false, false, false, false, false, false, false, false, false, false, false, false, false, false, false, false, false, false] rfl rfl (take_ofW HT_.out HW_.out (by kernel_rfl)) (fun _ _ _ h => h) (Or.inl ⟨by rfl, ?_⟩) hHeld ?_ ?_
                rotate_left
                · rintro w' ⟨s0, s1, s2, s3, s4, s5, s6, s7, s8, s9, s10, s11, s12, s13, s14, s15, s16, s17⟩
                  go_simp
                  with_reducible rfl
                rotate_left
                · simp only [Act.put, List.setIfInBounds_toArray, List.set_cons_zero, List.set_cons_succ, i64_w, i32_w]
                  rfl
                refine one_ (i := 5) (N := some 18) #[true, true, true, true, true, true, false, false, false, false, false, false, false, false, false, false, false, false, false, false, false, false, false, false, false, false, false, false, false, false, false, false, false] rfl rfl (one_of HT_.out (by kernel_rfl)) (by decide) (fun K hK => ?_)
                refine goes_ Try.func120 (by kernel_rfl) rfl #[.int .i64 ((rd_T135 l0 x3_1).f0)] (by rfl) rfl rfl (by (try simp only [List.map_toArray, List.map_cons, List.map_nil]); first | done | rfl | (simp only [List.length_drop, List.length_take]; rfl)) ?_
                with_reducible refine (spec_l06Peer.calls ((rd_T135 l0 x3_1).f0) true _ A5.out).mono ?_
                rintro e w' ⟨rfl, ⟨nd, rfl⟩⟩
                refine ⟨_, rfl, ?_⟩
                refine hK.out _ _ ⟨((HB.out.cell (World.block_lt_of_cell? _ _ hw113_0)).trans hw113_0), ((HB.out.cell (World.block_lt_of_cell? _ _ hw113_1)).trans hw113_1), ((HB.out.cell (World.block_lt_of_cell? _ _ hw113_2)).trans hw113_2), ((HB.out.cell (World.block_lt_of_cell? _ _ hw113_3)).trans hw113_3), ((HB.out.cell (World.block_lt_of_cell? _ _ hw113_4)).trans hw113_4), ((HB.out.cell (World.block_lt_of_cell? _ _ hw113_5)).trans hw113_5), ((HB.out.cell (World.block_lt_of_cell? _ _ hw113_6)).trans hw113_6), ((HB.out.cell (World.block_lt_of_cell? _ _ hw113_7)).trans hw113_7), ((HB.out.cell (World.block_lt_of_cell? _ _ hw113_8)).trans hw113_8), ((HB.out.cell (World.block_lt_of_cell? _ _ hw115_0)).trans hw115_0), ((HB.out.cell (World.block_lt_of_cell? _ _ hw115_1)).trans hw115_1), ((HB.out.cell (World.block_lt_of_cell? _ _ hw115_2)).trans hw115_2), ((HB.out.cell (World.block_lt_of_cell? _ _ hw115_3)).trans hw115_3), ((HB.out.cell (World.block_lt_of_cell? _ _ hw115_4)).trans hw115_4), ((HB.out.cell (World.block_lt_of_cell? _ _ hw115_5)).trans hw115_5), ((HB.out.cell (World.block_lt_of_cell? _ _ hw115_6)).trans hw115_6), ((HB.out.cell (World.block_lt_of_cell? _ _ hw115_7)).trans hw115_7), ((HB.out.cell (World.block_lt_of_cell? _ _ hw115_8)).trans hw115_8)⟩ (fun hHeld => ?_)
                clear hK K
                refine norm_ (a' := ?_) ?_ ?_
                rotate_left
                · show Act.put _ (some 18) _ = _
                  simp only [Act.put, List.setIfInBounds_toArray, List.set_cons_zero, List.set_cons_succ, i64_w, i32_w]
                  rfl
                refine pure_ (i := 6) (N := some 19) (v := ?_) (a' := ?_) #[true, true, true, true, true, true, true, false, false, false, false, false, false, false, false, false, false, false, false, false, false, false, false, false, false, false, false, false, false, false, false, false, false] rfl rfl (any_of HT_.out (by kernel_rfl)) (fun _ _ _ h => h) (Or.inl ⟨by rfl, ?_⟩) ?_ ?_
                rotate_left
                · intro w'
                  go_simp
                  with_reducible rfl
                rotate_left
                · simp only [Act.put, List.setIfInBounds_toArray, List.set_cons_zero, List.set_cons_succ, i64_w, i32_w]
                  rfl
                refine pure_ (i := 7) (N := some 20) (v := ?_) (a' := ?_) #[true, true, true, true, true, true, true, true, false, false, false, false, false, false, false, false, false, false, false, false, false, false, false, false, false, false, false, false, false, false, false, false, false] rfl rfl (any_of HT_.out (by kernel_rfl)) (fun _ _ _ h => h) (Or.inl ⟨by rfl, ?_⟩) ?_ ?_
                rotate_left
                · intro w'
                  go_simp
                  with_reducible rfl
                rotate_left
                · simp only [Act.put, List.setIfInBounds_toArray, List.set_cons_zero, List.set_cons_succ, i64_w, i32_w]
                  rfl
                refine pure_ (i := 8) (N := some 21) (v := ?_) (a' := ?_) #[true, true, true, true, true, true, true, true, true, false, false, false, false, false, false, false, false, false, false, false, false, false, false, false, false, false, false, false, false, false, false, false, false] rfl rfl (any_of HT_.out (by kernel_rfl)) (fun _ _ _ h => h) (Or.inl ⟨by rfl, ?_⟩) ?_ ?_
                rotate_left
                · intro w'
                  go_simp
                  with_reducible rfl
                rotate_left
                · simp only [Act.put, List.setIfInBounds_toArray, List.set_cons_zero, List.set_cons_succ, i64_w, i32_w]
                  rfl
                refine pure_ (i := 9) (N := some 22) (v := ?_) (a' := ?_) #[true, true, true, true, true, true, true, true, true, true, false, false, false, false, false, false, false, false, false, false, false, false, false, false, false, false, false, false, false, false, false, false, false] rfl rfl (any_of HT_.out (by kernel_rfl)) (fun _ _ _ h => h) (Or.inl ⟨by rfl, ?_⟩) ?_ ?_
                rotate_left
                · intro w'
                  go_simp
                  with_reducible rfl
                rotate_left
                · simp only [Act.put, List.setIfInBounds_toArray, List.set_cons_zero, List.set_cons_succ, i64_w, i32_w]
                  rfl
                refine pure_ (i := 10) (N := some 23) (v := ?_) (a' := ?_) #[true, true, true, true, true, true, true, true, true, true, true, false, false, false, false, false, false, false, false, false, false, false, false, false, false, false, false, false, false, false, false, false, false] rfl rfl (any_of HT_.out (by kernel_rfl)) (fun _ _ _ h => h) (Or.inl ⟨by rfl, ?_⟩) ?_ ?_
                rotate_left
                · intro w'
                  go_simp
                  with_reducible rfl
                rotate_left
                · simp only [Act.put, List.setIfInBounds_toArray, List.set_cons_zero, List.set_cons_succ, i64_w, i32_w]
                  rfl
                refine pure_ (i := 11) (N := some 24) (v := ?_) (a' := ?_) #[true, true, true, true, true, true, true, true, true, true, true, true, false, false, false, false, false, false, false, false, false, false, false, false, false, false, false, false, false, false, false, false, false] rfl rfl (any_of HT_.out (by kernel_rfl)) (fun _ _ _ h => h) (Or.inl ⟨by rfl, ?_⟩) ?_ ?_
                rotate_left
                · intro w'
                  go_simp
                  with_reducible rfl
                rotate_left
                · simp only [Act.put, List.setIfInBounds_toArray, List.set_cons_zero, List.set_cons_succ, i64_w, i32_w]
                  rfl
                refine take_ (i := 12) (N := some 25) (v := ?_) (a' := ?_) #[true, true, true, true, true, true, true, true, true, true, true, true, true, false, false, false, false, false, false, false, false, false, false, false, false, false, false, false, false, false, false, false, false] rfl rfl (take_ofW HT_.out HW_.out (by kernel_rfl)) (fun _ _ _ h => h) (Or.inl ⟨by rfl, ?_⟩) hHeld ?_ ?_
                rotate_left
                · rintro w' ⟨s0, s1, s2, s3, s4, s5, s6, s7, s8, s9, s10, s11, s12, s13, s14, s15, s16, s17⟩
                  go_simp
                  with_reducible rfl
                rotate_left
                · simp only [Act.put, List.setIfInBounds_toArray, List.set_cons_zero, List.set_cons_succ, i64_w, i32_w]
                  rfl
                refine one_ (i := 13) (N := some 26) #[true, true, true, true, true, true, true, true, true, true, true, true, true, true, false, false, false, false, false, false, false, false, false, false, false, false, false, false, false, false, false, false, false] rfl rfl (one_of HT_.out (by kernel_rfl)) (by decide) (fun K hK => ?_)
                refine goes_ Try.func101 (by kernel_rfl) rfl #[.agg #[.int .i64 ((rd_T135 l0 x3_1).f2.f0), .int .i64 ((rd_T135 l0 x3_1).f2.f1), .int .i64 ((rd_T135 l0 x3_1).f2.f2), .int .i64 ((rd_T135 l0 x3_1).f2.f3), .int .i64 ((rd_T135 l0 x3_1).f2.f4), .int .i64 ((rd_T135 l0 x3_1).f2.f5), .bool ((rd_T135 l0 x3_1).f2.f6)]] (by rfl) rfl rfl (by (try simp only [List.map_toArray, List.map_cons, List.map_nil]); first | done | rfl | (simp only [List.length_drop, List.length_take]; rfl)) ?_
                with_reducible refine (spec_RouteRight.calls k1 ((rd_T135 l0 x3_1).f2.f0) ((rd_T135 l0 x3_1).f2.f1) ((rd_T135 l0 x3_1).f2.f2) ((rd_T135 l0 x3_1).f2.f3) ((rd_T135 l0 x3_1).f2.f4) ((rd_T135 l0 x3_1).f2.f5) ((rd_T135 l0 x3_1).f2.f6) false _ A7.out).mono ?_
                rintro e w24 ⟨rfl, hb⟩
                refine ⟨_, rfl, ?_⟩
                have n0_ := Aside0.mk (below_step (by repeat (first | (with_reducible first | exact HB.out | apply below_alloc | apply pw_below_drewN | apply below_drew1) | exact HB.out)) hb)
                clear HB
                have HB := n0_
                clear n0_
                (try clear hb)
                (try clear hb2)
                (try clear hk)
                (try clear hi)
                refine hK.out _ _ ⟨((HB.out.cell (World.block_lt_of_cell? _ _ hw113_0)).trans hw113_0), ((HB.out.cell (World.block_lt_of_cell? _ _ hw113_1)).trans hw113_1), ((HB.out.cell (World.block_lt_of_cell? _ _ hw113_2)).trans hw113_2), ((HB.out.cell (World.block_lt_of_cell? _ _ hw113_3)).trans hw113_3), ((HB.out.cell (World.block_lt_of_cell? _ _ hw113_4)).trans hw113_4), ((HB.out.cell (World.block_lt_of_cell? _ _ hw113_5)).trans hw113_5), ((HB.out.cell (World.block_lt_of_cell? _ _ hw113_6)).trans hw113_6), ((HB.out.cell (World.block_lt_of_cell? _ _ hw113_7)).trans hw113_7), ((HB.out.cell (World.block_lt_of_cell? _ _ hw113_8)).trans hw113_8), ((HB.out.cell (World.block_lt_of_cell? _ _ hw115_0)).trans hw115_0), ((HB.out.cell (World.block_lt_of_cell? _ _ hw115_1)).trans hw115_1), ((HB.out.cell (World.block_lt_of_cell? _ _ hw115_2)).trans hw115_2), ((HB.out.cell (World.block_lt_of_cell? _ _ hw115_3)).trans hw115_3), ((HB.out.cell (World.block_lt_of_cell? _ _ hw115_4)).trans hw115_4), ((HB.out.cell (World.block_lt_of_cell? _ _ hw115_5)).trans hw115_5), ((HB.out.cell (World.block_lt_of_cell? _ _ hw115_6)).trans hw115_6), ((HB.out.cell (World.block_lt_of_cell? _ _ hw115_7)).trans hw115_7), ((HB.out.cell (World.block_lt_of_cell? _ _ hw115_8)).trans hw115_8)⟩ (fun hHeld => ?_)
                clear hK K
                refine norm_ (a' := ?_) ?_ ?_
                rotate_left
                · show Act.put _ (some 26) _ = _
                  simp only [Act.put, List.setIfInBounds_toArray, List.set_cons_zero, List.set_cons_succ, i64_w, i32_w]
                  rfl
                refine pure_ (i := 14) (N := some 27) (v := ?_) (a' := ?_) #[true, true, true, true, true, true, true, true, true, true, true, true, true, true, true, false, false, false, false, false, false, false, false, false, false, false, false, false, false, false, false, false, false] rfl rfl (any_of HT_.out (by kernel_rfl)) (fun _ _ _ h => h) (Or.inl ⟨by rfl, ?_⟩) ?_ ?_
                rotate_left
                · intro w'
                  go_simp
                  with_reducible rfl
                rotate_left
                · simp only [Act.put, List.setIfInBounds_toArray, List.set_cons_zero, List.set_cons_succ, i64_w, i32_w]
                  rfl
                refine pure_ (i := 15) (N := some 28) (v := ?_) (a' := ?_) #[true, true, true, true, true, true, true, true, true, true, true, true, true, true, true, true, false, false, false, false, false, false, false, false, false, false, false, false, false, false, false, false, false] rfl rfl (any_of HT_.out (by kernel_rfl)) (fun _ _ _ h => h) (Or.inl ⟨by rfl, ?_⟩) ?_ ?_
                rotate_left
                · intro w'
                  go_simp
                  with_reducible rfl
                rotate_left
                · simp only [Act.put, List.setIfInBounds_toArray, List.set_cons_zero, List.set_cons_succ, i64_w, i32_w]
                  rfl
                refine pure_ (i := 16) (N := some 29) (v := ?_) (a' := ?_) #[true, true, true, true, true, true, true, true, true, true, true, true, true, true, true, true, true, false, false, false, false, false, false, false, false, false, false, false, false, false, false, false, false] rfl rfl (any_of HT_.out (by kernel_rfl)) (fun _ _ _ h => h) (Or.inl ⟨by rfl, ?_⟩) ?_ ?_
                rotate_left
                · intro w'
                  go_simp
                  with_reducible rfl
                rotate_left
                · simp only [Act.put, List.setIfInBounds_toArray, List.set_cons_zero, List.set_cons_succ, i64_w, i32_w]
                  rfl
                refine pure_ (i := 17) (N := some 30) (v := undef) (a' := ?_) #[true, true, true, true, true, true, true, true, true, true, true, true, true, true, true, true, true, true, false, false, false, false, false, false, false, false, false, false, false, false, false, false, false] rfl rfl (any_of HT_.out (by kernel_rfl)) (fun _ _ _ h => h) (Or.inr ⟨by rfl, rfl⟩) ?_ ?_
                rotate_left
                · simp only [Act.put, List.setIfInBounds_toArray, List.set_cons_zero, List.set_cons_succ, i64_w, i32_w]
                  rfl
                refine pure_ (i := 18) (N := some 31) (v := undef) (a' := ?_) #[true, true, true, true, true, true, true, true, true, true, true, true, true, true, true, true, true, true, true, false, false, false, false, false, false, false, false, false, false, false, false, false, false] rfl rfl (any_of HT_.out (by kernel_rfl)) (fun _ _ _ h => h) (Or.inr ⟨by rfl, rfl⟩) ?_ ?_
                rotate_left
                · simp only [Act.put, List.setIfInBounds_toArray, List.set_cons_zero, List.set_cons_succ, i64_w, i32_w]
                  rfl
                refine pure_ (i := 19) (N := some 32) (v := undef) (a' := ?_) #[true, true, true, true, true, true, true, true, true, true, true, true, true, true, true, true, true, true, true, true, false, false, false, false, false, false, false, false, false, false, false, false, false] rfl rfl (any_of HT_.out (by kernel_rfl)) (fun _ _ _ h => h) (Or.inr ⟨by rfl, rfl⟩) ?_ ?_
                rotate_left
                · simp only [Act.put, List.setIfInBounds_toArray, List.set_cons_zero, List.set_cons_succ, i64_w, i32_w]
                  rfl
                refine pure_ (i := 20) (N := some 33) (v := undef) (a' := ?_) #[true, true, true, true, true, true, true, true, true, true, true, true, true, true, true, true, true, true, true, true, true, false, false, false, false, false, false, false, false, false, false, false, false] rfl rfl (any_of HT_.out (by kernel_rfl)) (fun _ _ _ h => h) (Or.inr ⟨by rfl, rfl⟩) ?_ ?_
                rotate_left
                · simp only [Act.put, List.setIfInBounds_toArray, List.set_cons_zero, List.set_cons_succ, i64_w, i32_w]
                  rfl
                refine pure_ (i := 21) (N := some 34) (v := undef) (a' := ?_) #[true, true, true, true, true, true, true, true, true, true, true, true, true, true, true, true, true, true, true, true, true, true, false, false, false, false, false, false, false, false, false, false, false] rfl rfl (any_of HT_.out (by kernel_rfl)) (fun _ _ _ h => h) (Or.inr ⟨by rfl, rfl⟩) ?_ ?_
                rotate_left
                · simp only [Act.put, List.setIfInBounds_toArray, List.set_cons_zero, List.set_cons_succ, i64_w, i32_w]
                  rfl
                refine pure_ (i := 22) (N := some 35) (v := undef) (a' := ?_) #[true, true, true, true, true, true, true, true, true, true, true, true, true, true, true, true, true, true, true, true, true, true, true, false, false, false, false, false, false, false, false, false, false] rfl rfl (any_of HT_.out (by kernel_rfl)) (fun _ _ _ h => h) (Or.inr ⟨by rfl, rfl⟩) ?_ ?_
                rotate_left
                · simp only [Act.put, List.setIfInBounds_toArray, List.set_cons_zero, List.set_cons_succ, i64_w, i32_w]
                  rfl
                refine pure_ (i := 23) (N := some 36) (v := undef) (a' := ?_) #[true, true, true, true, true, true, true, true, true, true, true, true, true, true, true, true, true, true, true, true, true, true, true, true, false, false, false, false, false, false, false, false, false] rfl rfl (any_of HT_.out (by kernel_rfl)) (fun _ _ _ h => h) (Or.inr ⟨by rfl, rfl⟩) ?_ ?_
                rotate_left
                · simp only [Act.put, List.setIfInBounds_toArray, List.set_cons_zero, List.set_cons_succ, i64_w, i32_w]
                  rfl
                refine pure_ (i := 24) (N := some 37) (v := undef) (a' := ?_) #[true, true, true, true, true, true, true, true, true, true, true, true, true, true, true, true, true, true, true, true, true, true, true, true, true, false, false, false, false, false, false, false, false] rfl rfl (any_of HT_.out (by kernel_rfl)) (fun _ _ _ h => h) (Or.inr ⟨by rfl, rfl⟩) ?_ ?_
                rotate_left
                · simp only [Act.put, List.setIfInBounds_toArray, List.set_cons_zero, List.set_cons_succ, i64_w, i32_w]
                  rfl
                refine pure_ (i := 25) (N := some 38) (v := undef) (a' := ?_) #[true, true, true, true, true, true, true, true, true, true, true, true, true, true, true, true, true, true, true, true, true, true, true, true, true, true, false, false, false, false, false, false, false] rfl rfl (any_of HT_.out (by kernel_rfl)) (fun _ _ _ h => h) (Or.inr ⟨by rfl, rfl⟩) ?_ ?_
                rotate_left
                · simp only [Act.put, List.setIfInBounds_toArray, List.set_cons_zero, List.set_cons_succ, i64_w, i32_w]
                  rfl
                refine pure_ (i := 26) (N := some 39) (v := undef) (a' := ?_) #[true, true, true, true, true, true, true, true, true, true, true, true, true, true, true, true, true, true, true, true, true, true, true, true, true, true, true, false, false, false, false, false, false] rfl rfl (any_of HT_.out (by kernel_rfl)) (fun _ _ _ h => h) (Or.inr ⟨by rfl, rfl⟩) ?_ ?_
                rotate_left
                · simp only [Act.put, List.setIfInBounds_toArray, List.set_cons_zero, List.set_cons_succ, i64_w, i32_w]
                  rfl
                refine pure_ (i := 27) (N := some 40) (v := undef) (a' := ?_) #[true, true, true, true, true, true, true, true, true, true, true, true, true, true, true, true, true, true, true, true, true, true, true, true, true, true, true, true, false, false, false, false, false] rfl rfl (any_of HT_.out (by kernel_rfl)) (fun _ _ _ h => h) (Or.inr ⟨by rfl, rfl⟩) ?_ ?_
                rotate_left
                · simp only [Act.put, List.setIfInBounds_toArray, List.set_cons_zero, List.set_cons_succ, i64_w, i32_w]
                  rfl
                refine pure_ (i := 28) (N := some 41) (v := undef) (a' := ?_) #[true, true, true, true, true, true, true, true, true, true, true, true, true, true, true, true, true, true, true, true, true, true, true, true, true, true, true, true, true, false, false, false, false] rfl rfl (any_of HT_.out (by kernel_rfl)) (fun _ _ _ h => h) (Or.inr ⟨by rfl, rfl⟩) ?_ ?_
                rotate_left
                · simp only [Act.put, List.setIfInBounds_toArray, List.set_cons_zero, List.set_cons_succ, i64_w, i32_w]
                  rfl
                refine pure_ (i := 29) (N := some 42) (v := undef) (a' := ?_) #[true, true, true, true, true, true, true, true, true, true, true, true, true, true, true, true, true, true, true, true, true, true, true, true, true, true, true, true, true, true, false, false, false] rfl rfl (any_of HT_.out (by kernel_rfl)) (fun _ _ _ h => h) (Or.inr ⟨by rfl, rfl⟩) ?_ ?_
                rotate_left
                · simp only [Act.put, List.setIfInBounds_toArray, List.set_cons_zero, List.set_cons_succ, i64_w, i32_w]
                  rfl
                refine pure_ (i := 30) (N := some 43) (v := undef) (a' := ?_) #[true, true, true, true, true, true, true, true, true, true, true, true, true, true, true, true, true, true, true, true, true, true, true, true, true, true, true, true, true, true, true, false, false] rfl rfl (any_of HT_.out (by kernel_rfl)) (fun _ _ _ h => h) (Or.inr ⟨by rfl, rfl⟩) ?_ ?_
                rotate_left
                · simp only [Act.put, List.setIfInBounds_toArray, List.set_cons_zero, List.set_cons_succ, i64_w, i32_w]
                  rfl
                refine pure_ (i := 31) (N := some 44) (v := undef) (a' := ?_) #[true, true, true, true, true, true, true, true, true, true, true, true, true, true, true, true, true, true, true, true, true, true, true, true, true, true, true, true, true, true, true, true, false] rfl rfl (any_of HT_.out (by kernel_rfl)) (fun _ _ _ h => h) (Or.inr ⟨by rfl, rfl⟩) ?_ ?_
                rotate_left
                · simp only [Act.put, List.setIfInBounds_toArray, List.set_cons_zero, List.set_cons_succ, i64_w, i32_w]
                  rfl
                refine pure_ (i := 32) (N := some 45) (v := ?_) (a' := ?_) #[true, true, true, true, true, true, true, true, true, true, true, true, true, true, true, true, true, true, true, true, true, true, true, true, true, true, true, true, true, true, true, true, true] rfl rfl (any_of HT_.out (by kernel_rfl)) (fun _ _ _ h => h) (Or.inl ⟨by rfl, ?_⟩) ?_ ?_
                rotate_left
                · intro w'
                  go_simp
                  with_reducible rfl
                rotate_left
                · simp only [Act.put, List.setIfInBounds_toArray, List.set_cons_zero, List.set_cons_succ, i64_w, i32_w]
                  rfl
                refine done_ (done_of HT_.out (by kernel_rfl)) ?_
                try go_wp2
                go_ret
                exact ⟨by first | rfl | (simp [errW_none, errW_some] <;> rfl) | (simp [*, errW_none, errW_some] <;> rfl), by repeat (first | (with_reducible first | exact HB.out | apply below_alloc | apply pw_below_drewN | apply below_drew1) | exact HB.out)⟩
            · replace c6 := Bool.eq_false_iff.mpr c6
              subst c6
              have H1 : (some false) = some r := by rw [if_neg (show ¬ (false = true) by decide)] at H; exact H
              clear H
              have H := H1
              clear H1
              obtain rfl := Option.some.inj H
              try go_wp2
              have n0_ := Aside0.mk (below_drew1 HB.out)
              clear HB
              have HB := n0_
              clear n0_
              have p113 : 0 ≤ (x3_1 : Int) := of_decide_eq_true (by first | (with_reducible assumption) | assumption)
              have q113 : x3_1 < (l0.length : Int) := of_decide_eq_true (by first | (with_reducible assumption) | assumption)
              obtain ⟨ad113, e113, hx113_0, hx113_1, hx113_2, hx113_3, hx113_4, hx113_5, hx113_6, hx113_7, hx113_8⟩ := at_T135 HR0.out x3_1 p113 q113
              have hw113_8 := hx113_8
              have hw113_7 := hx113_7
              have hw113_6 := hx113_6
              have hw113_5 := hx113_5
              have hw113_4 := hx113_4
              have hw113_3 := hx113_3
              have hw113_2 := hx113_2
              have hw113_1 := hx113_1
              have hw113_0 := hx113_0
              cases e113
              replace hx113_0 := (HB.out.cell (World.block_lt_of_cell? w _ hx113_0)).trans hx113_0
              replace hx113_1 := (HB.out.cell (World.block_lt_of_cell? w _ hx113_1)).trans hx113_1
              replace hx113_2 := (HB.out.cell (World.block_lt_of_cell? w _ hx113_2)).trans hx113_2
              replace hx113_3 := (HB.out.cell (World.block_lt_of_cell? w _ hx113_3)).trans hx113_3
              replace hx113_4 := (HB.out.cell (World.block_lt_of_cell? w _ hx113_4)).trans hx113_4
              replace hx113_5 := (HB.out.cell (World.block_lt_of_cell? w _ hx113_5)).trans hx113_5
              replace hx113_6 := (HB.out.cell (World.block_lt_of_cell? w _ hx113_6)).trans hx113_6
              replace hx113_7 := (HB.out.cell (World.block_lt_of_cell? w _ hx113_7)).trans hx113_7
              replace hx113_8 := (HB.out.cell (World.block_lt_of_cell? w _ hx113_8)).trans hx113_8
              replace p113 := eq_true p113
              replace q113 := eq_true q113
              refine start_ (n := 33) (S := fun w' => w'.cell? (ad113.add ((x3_1).toNat * 9)) = some (.int .i64 ((rd_T135 l0 x3_1).f0)) ∧ w'.cell? ⟨(ad113.add ((x3_1).toNat * 9)).block, (ad113.add ((x3_1).toNat * 9)).off + 1, none⟩ = some (.bool ((rd_T135 l0 x3_1).f1)) ∧ w'.cell? ⟨(ad113.add ((x3_1).toNat * 9)).block, (ad113.add ((x3_1).toNat * 9)).off + 2, none⟩ = some (.int .i64 ((rd_T135 l0 x3_1).f2.f0)) ∧ w'.cell? ⟨(ad113.add ((x3_1).toNat * 9)).block, (ad113.add ((x3_1).toNat * 9)).off + 3, none⟩ = some (.int .i64 ((rd_T135 l0 x3_1).f2.f1)) ∧ w'.cell? ⟨(ad113.add ((x3_1).toNat * 9)).block, (ad113.add ((x3_1).toNat * 9)).off + 4, none⟩ = some (.int .i64 ((rd_T135 l0 x3_1).f2.f2)) ∧ w'.cell? ⟨(ad113.add ((x3_1).toNat * 9)).block, (ad113.add ((x3_1).toNat * 9)).off + 5, none⟩ = some (.int .i64 ((rd_T135 l0 x3_1).f2.f3)) ∧ w'.cell? ⟨(ad113.add ((x3_1).toNat * 9)).block, (ad113.add ((x3_1).toNat * 9)).off + 6, none⟩ = some (.int .i64 ((rd_T135 l0 x3_1).f2.f4)) ∧ w'.cell? ⟨(ad113.add ((x3_1).toNat * 9)).block, (ad113.add ((x3_1).toNat * 9)).off + 7, none⟩ = some (.int .i64 ((rd_T135 l0 x3_1).f2.f5)) ∧ w'.cell? ⟨(ad113.add ((x3_1).toNat * 9)).block, (ad113.add ((x3_1).toNat * 9)).off + 8, none⟩ = some (.bool ((rd_T135 l0 x3_1).f2.f6))) (ds := []) #[false, false, false, false, false, false, false, false, false, false, false, false, false, false, false, false, false, false, false, false, false, false, false, false, false, false, false, false, false, false, false, false, false] (by kernel_rfl) rfl rfl ⟨((HB.out.cell (World.block_lt_of_cell? _ _ hw113_0)).trans hw113_0), ((HB.out.cell (World.block_lt_of_cell? _ _ hw113_1)).trans hw113_1), ((HB.out.cell (World.block_lt_of_cell? _ _ hw113_2)).trans hw113_2), ((HB.out.cell (World.block_lt_of_cell? _ _ hw113_3)).trans hw113_3), ((HB.out.cell (World.block_lt_of_cell? _ _ hw113_4)).trans hw113_4), ((HB.out.cell (World.block_lt_of_cell? _ _ hw113_5)).trans hw113_5), ((HB.out.cell (World.block_lt_of_cell? _ _ hw113_6)).trans hw113_6), ((HB.out.cell (World.block_lt_of_cell? _ _ hw113_7)).trans hw113_7), ((HB.out.cell (World.block_lt_of_cell? _ _ hw113_8)).trans hw113_8)⟩ (fun hHeld => ?_); refine with_tabW spec_RibRight.tab6 spec_RibRight.bits6 (fun HT_ HW_ => ?_)
              generalize wr.drew = w25 at HB hx113_0 hx113_1 hx113_2 hx113_3 hx113_4 hx113_5 hx113_6 hx113_7 hx113_8 hHeld ⊢
              refine pure_ (i := 0) (N := some 13) (v := ?_) (a' := ?_) #[true, false, false, false, false, false, false, false, false, false, false, false, false, false, false, false, false, false, false, false, false, false, false, false, false, false, false, false, false, false, false, false, false] rfl rfl (any_of HT_.out (by kernel_rfl)) (fun _ _ _ h => h) (Or.inl ⟨by rfl, ?_⟩) ?_ ?_
              rotate_left
              · intro w'
                go_simp
                with_reducible rfl
              rotate_left
              · simp only [Act.put, List.setIfInBounds_toArray, List.set_cons_zero, List.set_cons_succ, i64_w, i32_w]
                rfl
              refine pure_ (i := 1) (N := some 14) (v := ?_) (a' := ?_) #[true, true, false, false, false, false, false, false, false, false, false, false, false, false, false, false, false, false, false, false, false, false, false, false, false, false, false, false, false, false, false, false, false] rfl rfl (any_of HT_.out (by kernel_rfl)) (fun _ _ _ h => h) (Or.inl ⟨by rfl, ?_⟩) ?_ ?_
              rotate_left
              · intro w'
                go_simp
                with_reducible rfl
              rotate_left
              · simp only [Act.put, List.setIfInBounds_toArray, List.set_cons_zero, List.set_cons_succ, i64_w, i32_w]
                rfl
              refine pure_ (i := 2) (N := some 15) (v := ?_) (a' := ?_) #[true, true, true, false, false, false, false, false, false, false, false, false, false, false, false, false, false, false, false, false, false, false, false, false, false, false, false, false, false, false, false, false, false] rfl rfl (any_of HT_.out (by kernel_rfl)) (fun _ _ _ h => h) (Or.inl ⟨by rfl, ?_⟩) ?_ ?_
              rotate_left
              · intro w'
                go_simp
                with_reducible rfl
              rotate_left
              · simp only [Act.put, List.setIfInBounds_toArray, List.set_cons_zero, List.set_cons_succ, i64_w, i32_w]
                rfl
              refine pure_ (i := 3) (N := some 16) (v := ?_) (a' := ?_) #[true, true, true, true, false, false, false, false, false, false, false, false, false, false, false, false, false, false, false, false, false, false, false, false, false, false, false, false, false, false, false, false, false] rfl rfl (any_of HT_.out (by kernel_rfl)) (fun _ _ _ h => h) (Or.inl ⟨by rfl, ?_⟩) ?_ ?_
              rotate_left
              · intro w'
                go_simp
                with_reducible rfl
              rotate_left
              · simp only [Act.put, List.setIfInBounds_toArray, List.set_cons_zero, List.set_cons_succ, i64_w, i32_w]
                rfl
              refine take_ (i := 4) (N := some 17) (v := ?_) (a' := ?_) #[true, true, true, true, true, false, false, false, false, false, false, false, false, false, false, false, false, false, false, false, false, false, false, false, false, false, false, false, false, false, false, false, false] rfl rfl (take_ofW HT_.out HW_.out (by kernel_rfl)) (fun _ _ _ h => h) (Or.inl ⟨by rfl, ?_⟩) hHeld ?_ ?_
              rotate_left
              · rintro w' ⟨s0, s1, s2, s3, s4, s5, s6, s7, s8⟩
                go_simp
                with_reducible rfl
              rotate_left
              · simp only [Act.put, List.setIfInBounds_toArray, List.set_cons_zero, List.set_cons_succ, i64_w, i32_w]
                rfl
              refine one_ (i := 5) (N := some 18) #[true, true, true, true, true, true, false, false, false, false, false, false, false, false, false, false, false, false, false, false, false, false, false, false, false, false, false, false, false, false, false, false, false] rfl rfl (one_of HT_.out (by kernel_rfl)) (by decide) (fun K hK => ?_)
              refine goes_ Try.func120 (by kernel_rfl) rfl #[.int .i64 ((rd_T135 l0 x3_1).f0)] (by rfl) rfl rfl (by (try simp only [List.map_toArray, List.map_cons, List.map_nil]); first | done | rfl | (simp only [List.length_drop, List.length_take]; rfl)) ?_
              with_reducible refine (spec_l06Peer.calls ((rd_T135 l0 x3_1).f0) false _ A5.out).mono ?_
              rintro e w' ⟨rfl, ⟨nd, rfl⟩⟩
              refine ⟨_, rfl, ?_⟩
              refine hK.out _ _ ⟨((HB.out.cell (World.block_lt_of_cell? _ _ hw113_0)).trans hw113_0), ((HB.out.cell (World.block_lt_of_cell? _ _ hw113_1)).trans hw113_1), ((HB.out.cell (World.block_lt_of_cell? _ _ hw113_2)).trans hw113_2), ((HB.out.cell (World.block_lt_of_cell? _ _ hw113_3)).trans hw113_3), ((HB.out.cell (World.block_lt_of_cell? _ _ hw113_4)).trans hw113_4), ((HB.out.cell (World.block_lt_of_cell? _ _ hw113_5)).trans hw113_5), ((HB.out.cell (World.block_lt_of_cell? _ _ hw113_6)).trans hw113_6), ((HB.out.cell (World.block_lt_of_cell? _ _ hw113_7)).trans hw113_7), ((HB.out.cell (World.block_lt_of_cell? _ _ hw113_8)).trans hw113_8)⟩ (fun hHeld => ?_)
              clear hK K
              refine norm_ (a' := ?_) ?_ ?_
              rotate_left
              · show Act.put _ (some 18) _ = _
                simp only [Act.put, List.setIfInBounds_toArray, List.set_cons_zero, List.set_cons_succ, i64_w, i32_w]
                rfl
              refine pure_ (i := 6) (N := some 19) (v := ?_) (a' := ?_) #[true, true, true, true, true, true, true, false, false, false, false, false, false, false, false, false, false, false, false, false, false, false, false, false, false, false, false, false, false, false, false, false, false] rfl rfl (any_of HT_.out (by kernel_rfl)) (fun _ _ _ h => h) (Or.inl ⟨by rfl, ?_⟩) ?_ ?_
              rotate_left
              · intro w'
                go_simp
                with_reducible rfl
              rotate_left
              · simp only [Act.put, List.setIfInBounds_toArray, List.set_cons_zero, List.set_cons_succ, i64_w, i32_w]
                rfl
              refine pure_ (i := 7) (N := some 20) (v := ?_) (a' := ?_) #[true, true, true, true, true, true, true, true, false, false, false, false, false, false, false, false, false, false, false, false, false, false, false, false, false, false, false, false, false, false, false, false, false] rfl rfl (any_of HT_.out (by kernel_rfl)) (fun _ _ _ h => h) (Or.inl ⟨by rfl, ?_⟩) ?_ ?_
              rotate_left
              · intro w'
                go_simp
                with_reducible rfl
              rotate_left
              · simp only [Act.put, List.setIfInBounds_toArray, List.set_cons_zero, List.set_cons_succ, i64_w, i32_w]
                rfl
              refine pure_ (i := 8) (N := some 21) (v := undef) (a' := ?_) #[true, true, true, true, true, true, true, true, true, false, false, false, false, false, false, false, false, false, false, false, false, false, false, false, false, false, false, false, false, false, false, false, false] rfl rfl (any_of HT_.out (by kernel_rfl)) (fun _ _ _ h => h) (Or.inr ⟨by rfl, rfl⟩) ?_ ?_
              rotate_left
              · simp only [Act.put, List.setIfInBounds_toArray, List.set_cons_zero, List.set_cons_succ, i64_w, i32_w]
                rfl
              refine pure_ (i := 9) (N := some 22) (v := undef) (a' := ?_) #[true, true, true, true, true, true, true, true, true, true, false, false, false, false, false, false, false, false, false, false, false, false, false, false, false, false, false, false, false, false, false, false, false] rfl rfl (any_of HT_.out (by kernel_rfl)) (fun _ _ _ h => h) (Or.inr ⟨by rfl, rfl⟩) ?_ ?_
              rotate_left
              · simp only [Act.put, List.setIfInBounds_toArray, List.set_cons_zero, List.set_cons_succ, i64_w, i32_w]
                rfl
              refine pure_ (i := 10) (N := some 23) (v := undef) (a' := ?_) #[true, true, true, true, true, true, true, true, true, true, true, false, false, false, false, false, false, false, false, false, false, false, false, false, false, false, false, false, false, false, false, false, false] rfl rfl (any_of HT_.out (by kernel_rfl)) (fun _ _ _ h => h) (Or.inr ⟨by rfl, rfl⟩) ?_ ?_
              rotate_left
              · simp only [Act.put, List.setIfInBounds_toArray, List.set_cons_zero, List.set_cons_succ, i64_w, i32_w]
                rfl
              refine pure_ (i := 11) (N := some 24) (v := undef) (a' := ?_) #[true, true, true, true, true, true, true, true, true, true, true, true, false, false, false, false, false, false, false, false, false, false, false, false, false, false, false, false, false, false, false, false, false] rfl rfl (any_of HT_.out (by kernel_rfl)) (fun _ _ _ h => h) (Or.inr ⟨by rfl, rfl⟩) ?_ ?_
              rotate_left
              · simp only [Act.put, List.setIfInBounds_toArray, List.set_cons_zero, List.set_cons_succ, i64_w, i32_w]
                rfl
              refine pure_ (i := 12) (N := some 25) (v := undef) (a' := ?_) #[true, true, true, true, true, true, true, true, true, true, true, true, true, false, false, false, false, false, false, false, false, false, false, false, false, false, false, false, false, false, false, false, false] rfl rfl (any_of HT_.out (by kernel_rfl)) (fun _ _ _ h => h) (Or.inr ⟨by rfl, rfl⟩) ?_ ?_
              rotate_left
              · simp only [Act.put, List.setIfInBounds_toArray, List.set_cons_zero, List.set_cons_succ, i64_w, i32_w]
                rfl
              refine pure_ (i := 13) (N := some 26) (v := undef) (a' := ?_) #[true, true, true, true, true, true, true, true, true, true, true, true, true, true, false, false, false, false, false, false, false, false, false, false, false, false, false, false, false, false, false, false, false] rfl rfl (any_of HT_.out (by kernel_rfl)) (fun _ _ _ h => h) (Or.inr ⟨by rfl, rfl⟩) ?_ ?_
              rotate_left
              · simp only [Act.put, List.setIfInBounds_toArray, List.set_cons_zero, List.set_cons_succ, i64_w, i32_w]
                rfl
              refine pure_ (i := 14) (N := some 27) (v := undef) (a' := ?_) #[true, true, true, true, true, true, true, true, true, true, true, true, true, true, true, false, false, false, false, false, false, false, false, false, false, false, false, false, false, false, false, false, false] rfl rfl (any_of HT_.out (by kernel_rfl)) (fun _ _ _ h => h) (Or.inr ⟨by rfl, rfl⟩) ?_ ?_
              rotate_left
              · simp only [Act.put, List.setIfInBounds_toArray, List.set_cons_zero, List.set_cons_succ, i64_w, i32_w]
                rfl
              refine pure_ (i := 15) (N := some 28) (v := ?_) (a' := ?_) #[true, true, true, true, true, true, true, true, true, true, true, true, true, true, true, true, false, false, false, false, false, false, false, false, false, false, false, false, false, false, false, false, false] rfl rfl (any_of HT_.out (by kernel_rfl)) (fun _ _ _ h => h) (Or.inl ⟨by rfl, ?_⟩) ?_ ?_
              rotate_left
              · intro w'
                go_simp
                with_reducible rfl
              rotate_left
              · simp only [Act.put, List.setIfInBounds_toArray, List.set_cons_zero, List.set_cons_succ, i64_w, i32_w]
                rfl
              refine pure_ (i := 16) (N := some 29) (v := ?_) (a' := ?_) #[true, true, true, true, true, true, true, true, true, true, true, true, true, true, true, true, true, false, false, false, false, false, false, false, false, false, false, false, false, false, false, false, false] rfl rfl (any_of HT_.out (by kernel_rfl)) (fun _ _ _ h => h) (Or.inl ⟨by rfl, ?_⟩) ?_ ?_
              rotate_left
              · intro w'
                go_simp
                with_reducible rfl
              rotate_left
              · simp only [Act.put, List.setIfInBounds_toArray, List.set_cons_zero, List.set_cons_succ, i64_w, i32_w]
                rfl
              refine pure_ (i := 17) (N := some 30) (v := undef) (a' := ?_) #[true, true, true, true, true, true, true, true, true, true, true, true, true, true, true, true, true, true, false, false, false, false, false, false, false, false, false, false, false, false, false, false, false] rfl rfl (any_of HT_.out (by kernel_rfl)) (fun _ _ _ h => h) (Or.inr ⟨by rfl, rfl⟩) ?_ ?_
              rotate_left
              · simp only [Act.put, List.setIfInBounds_toArray, List.set_cons_zero, List.set_cons_succ, i64_w, i32_w]
                rfl
              refine pure_ (i := 18) (N := some 31) (v := undef) (a' := ?_) #[true, true, true, true, true, true, true, true, true, true, true, true, true, true, true, true, true, true, true, false, false, false, false, false, false, false, false, false, false, false, false, false, false] rfl rfl (any_of HT_.out (by kernel_rfl)) (fun _ _ _ h => h) (Or.inr ⟨by rfl, rfl⟩) ?_ ?_
              rotate_left
              · simp only [Act.put, List.setIfInBounds_toArray, List.set_cons_zero, List.set_cons_succ, i64_w, i32_w]
                rfl
              refine pure_ (i := 19) (N := some 32) (v := undef) (a' := ?_) #[true, true, true, true, true, true, true, true, true, true, true, true, true, true, true, true, true, true, true, true, false, false, false, false, false, false, false, false, false, false, false, false, false] rfl rfl (any_of HT_.out (by kernel_rfl)) (fun _ _ _ h => h) (Or.inr ⟨by rfl, rfl⟩) ?_ ?_
              rotate_left
              · simp only [Act.put, List.setIfInBounds_toArray, List.set_cons_zero, List.set_cons_succ, i64_w, i32_w]
                rfl
              refine pure_ (i := 20) (N := some 33) (v := undef) (a' := ?_) #[true, true, true, true, true, true, true, true, true, true, true, true, true, true, true, true, true, true, true, true, true, false, false, false, false, false, false, false, false, false, false, false, false] rfl rfl (any_of HT_.out (by kernel_rfl)) (fun _ _ _ h => h) (Or.inr ⟨by rfl, rfl⟩) ?_ ?_
              rotate_left
              · simp only [Act.put, List.setIfInBounds_toArray, List.set_cons_zero, List.set_cons_succ, i64_w, i32_w]
                rfl
              refine pure_ (i := 21) (N := some 34) (v := undef) (a' := ?_) #[true, true, true, true, true, true, true, true, true, true, true, true, true, true, true, true, true, true, true, true, true, true, false, false, false, false, false, false, false, false, false, false, false] rfl rfl (any_of HT_.out (by kernel_rfl)) (fun _ _ _ h => h) (Or.inr ⟨by rfl, rfl⟩) ?_ ?_
              rotate_left
              · simp only [Act.put, List.setIfInBounds_toArray, List.set_cons_zero, List.set_cons_succ, i64_w, i32_w]
                rfl
              refine pure_ (i := 22) (N := some 35) (v := undef) (a' := ?_) #[true, true, true, true, true, true, true, true, true, true, true, true, true, true, true, true, true, true, true, true, true, true, true, false, false, false, false, false, false, false, false, false, false] rfl rfl (any_of HT_.out (by kernel_rfl)) (fun _ _ _ h => h) (Or.inr ⟨by rfl, rfl⟩) ?_ ?_
              rotate_left
              · simp only [Act.put, List.setIfInBounds_toArray, List.set_cons_zero, List.set_cons_succ, i64_w, i32_w]
                rfl
              refine pure_ (i := 23) (N := some 36) (v := undef) (a' := ?_) #[true, true, true, true, true, true, true, true, true, true, true, true, true, true, true, true, true, true, true, true, true, true, true, true, false, false, false, false, false, false, false, false, false] rfl rfl (any_of HT_.out (by kernel_rfl)) (fun _ _ _ h => h) (Or.inr ⟨by rfl, rfl⟩) ?_ ?_
              rotate_left
              · simp only [Act.put, List.setIfInBounds_toArray, List.set_cons_zero, List.set_cons_succ, i64_w, i32_w]
                rfl
              refine pure_ (i := 24) (N := some 37) (v := undef) (a' := ?_) #[true, true, true, true, true, true, true, true, true, true, true, true, true, true, true, true, true, true, true, true, true, true, true, true, true, false, false, false, false, false, false, false, false] rfl rfl (any_of HT_.out (by kernel_rfl)) (fun _ _ _ h => h) (Or.inr ⟨by rfl, rfl⟩) ?_ ?_
              rotate_left
              · simp only [Act.put, List.setIfInBounds_toArray, List.set_cons_zero, List.set_cons_succ, i64_w, i32_w]
                rfl
              refine pure_ (i := 25) (N := some 38) (v := undef) (a' := ?_) #[true, true, true, true, true, true, true, true, true, true, true, true, true, true, true, true, true, true, true, true, true, true, true, true, true, true, false, false, false, false, false, false, false] rfl rfl (any_of HT_.out (by kernel_rfl)) (fun _ _ _ h => h) (Or.inr ⟨by rfl, rfl⟩) ?_ ?_
              rotate_left
              · simp only [Act.put, List.setIfInBounds_toArray, List.set_cons_zero, List.set_cons_succ, i64_w, i32_w]
                rfl
              refine pure_ (i := 26) (N := some 39) (v := undef) (a' := ?_) #[true, true, true, true, true, true, true, true, true, true, true, true, true, true, true, true, true, true, true, true, true, true, true, true, true, true, true, false, false, false, false, false, false] rfl rfl (any_of HT_.out (by kernel_rfl)) (fun _ _ _ h => h) (Or.inr ⟨by rfl, rfl⟩) ?_ ?_
              rotate_left
              · simp only [Act.put, List.setIfInBounds_toArray, List.set_cons_zero, List.set_cons_succ, i64_w, i32_w]
                rfl
              refine pure_ (i := 27) (N := some 40) (v := undef) (a' := ?_) #[true, true, true, true, true, true, true, true, true, true, true, true, true, true, true, true, true, true, true, true, true, true, true, true, true, true, true, true, false, false, false, false, false] rfl rfl (any_of HT_.out (by kernel_rfl)) (fun _ _ _ h => h) (Or.inr ⟨by rfl, rfl⟩) ?_ ?_
              rotate_left
              · simp only [Act.put, List.setIfInBounds_toArray, List.set_cons_zero, List.set_cons_succ, i64_w, i32_w]
                rfl
              refine pure_ (i := 28) (N := some 41) (v := undef) (a' := ?_) #[true, true, true, true, true, true, true, true, true, true, true, true, true, true, true, true, true, true, true, true, true, true, true, true, true, true, true, true, true, false, false, false, false] rfl rfl (any_of HT_.out (by kernel_rfl)) (fun _ _ _ h => h) (Or.inr ⟨by rfl, rfl⟩) ?_ ?_
              rotate_left
              · simp only [Act.put, List.setIfInBounds_toArray, List.set_cons_zero, List.set_cons_succ, i64_w, i32_w]
                rfl
              refine pure_ (i := 29) (N := some 42) (v := undef) (a' := ?_) #[true, true, true, true, true, true, true, true, true, true, true, true, true, true, true, true, true, true, true, true, true, true, true, true, true, true, true, true, true, true, false, false, false] rfl rfl (any_of HT_.out (by kernel_rfl)) (fun _ _ _ h => h) (Or.inr ⟨by rfl, rfl⟩) ?_ ?_
              rotate_left
              · simp only [Act.put, List.setIfInBounds_toArray, List.set_cons_zero, List.set_cons_succ, i64_w, i32_w]
                rfl
              refine pure_ (i := 30) (N := some 43) (v := undef) (a' := ?_) #[true, true, true, true, true, true, true, true, true, true, true, true, true, true, true, true, true, true, true, true, true, true, true, true, true, true, true, true, true, true, true, false, false] rfl rfl (any_of HT_.out (by kernel_rfl)) (fun _ _ _ h => h) (Or.inr ⟨by rfl, rfl⟩) ?_ ?_
              rotate_left
              · simp only [Act.put, List.setIfInBounds_toArray, List.set_cons_zero, List.set_cons_succ, i64_w, i32_w]
                rfl
              refine pure_ (i := 31) (N := some 44) (v := undef) (a' := ?_) #[true, true, true, true, true, true, true, true, true, true, true, true, true, true, true, true, true, true, true, true, true, true, true, true, true, true, true, true, true, true, true, true, false] rfl rfl (any_of HT_.out (by kernel_rfl)) (fun _ _ _ h => h) (Or.inr ⟨by rfl, rfl⟩) ?_ ?_
              rotate_left
              · simp only [Act.put, List.setIfInBounds_toArray, List.set_cons_zero, List.set_cons_succ, i64_w, i32_w]
                rfl
              refine pure_ (i := 32) (N := some 45) (v := ?_) (a' := ?_) #[true, true, true, true, true, true, true, true, true, true, true, true, true, true, true, true, true, true, true, true, true, true, true, true, true, true, true, true, true, true, true, true, true] rfl rfl (any_of HT_.out (by kernel_rfl)) (fun _ _ _ h => h) (Or.inl ⟨by rfl, ?_⟩) ?_ ?_
              rotate_left
              · intro w'
                go_simp
                with_reducible rfl
              rotate_left
              · simp only [Act.put, List.setIfInBounds_toArray, List.set_cons_zero, List.set_cons_succ, i64_w, i32_w]
                rfl
              refine done_ (done_of HT_.out (by kernel_rfl)) ?_
              try go_wp2
              go_ret
              exact ⟨by first | rfl | (simp [errW_none, errW_some] <;> rfl) | (simp [*, errW_none, errW_some] <;> rfl), by repeat (first | (with_reducible first | exact HB.out | apply below_alloc | apply pw_below_drewN | apply below_drew1) | exact HB.out)⟩
          · rw [if_neg c4] at H
            exact absurd H (by simp)
        · rw [if_neg c3] at H
          have c3b0 : decide (x3_1 < (l0.length : Int)) = false := decide_eq_false c3
          clear c3
          obtain rfl := Option.some.inj H
          go_wp2
          go_ret
          exact ⟨by first | rfl | (simp [errW_none, errW_some] <;> rfl) | (simp [*, errW_none, errW_some] <;> rfl), by repeat (first | (with_reducible first | exact HB.out | apply below_alloc | apply pw_below_drewN | apply below_drew1) | exact HB.out)⟩

end Go.Proofs.Ytkbhdiambabnnaa.PFnExactRibRight
