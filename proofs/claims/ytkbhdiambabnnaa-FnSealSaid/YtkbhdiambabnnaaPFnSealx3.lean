-- Written by a program of this session (wip/ep), out of the translation. Lean checks it.
import Derived.Test.YtkbhdiambabnnaaPFnSealx0
import Derived.Test.YtkbhdiambabnnaaPFnSealx1
import Derived.Test.YtkbhdiambabnnaaPFnSealx2
import Derived.StillTailTactics
namespace Go.Proofs.Ytkbhdiambabnnaa.PFnSeal
open Go.RowKit Go.Proofs.YtkbhdiambabnnaaW.PrintWords Go.Proofs.YtkbhdiambabnnaaW.PrintLast Go.Proofs.YtkbhdiambabnnaaW.PrintMore
attribute [local go_sem] max2_int min2_int max_two min_two max_three min_three max_four min_four   -- for this text's walks alone
set_option linter.unusedVariables false
set_option linter.unusedSimpArgs false

/-! ### impl_CrcMore: function 38 -/
def impl_CrcMore.f (a0 : Int) (a1 : ByteArray) : Option (Int) := (impl_isLong.f a1).bind fun t194 => (if t194 = true then (some 0) else ((impl_in.f a0 0 4294967295).bind fun t195 => (if t195 = true then ((impl_crcMore.f ((a0) % 4294967296) a1).bind fun t196 => (some (wrap64 (t196)))) else (some 0))))
set_option maxHeartbeats 8000000 in
set_option maxRecDepth 100000 in
theorem impl_CrcMore.calls (a0 : Int) (a1 : ByteArray) (r : Int) (w : World) (h : impl_CrcMore.f a0 a1 = some r) :
    Calls Try.prog 38 #[.int .i64 a0, .string a1] w fun e w' => e = .returned (.int .i64 r) ∧ Below w.heap.size w w' := by
  have HB := Aside0.mk (Below.refl w.heap.size w)
  have H : ((impl_isLong.f a1).bind fun t194 => (if t194 = true then (some 0) else ((impl_in.f a0 0 4294967295).bind fun t195 => (if t195 = true then ((impl_crcMore.f ((a0) % 4294967296) a1).bind fun t196 => (some (wrap64 (t196)))) else (some 0))))) = some r := h
  clear h
  replace H := Option.bind_eq_some_iff.mp H
  obtain ⟨t194, A30, H⟩ := H
  replace H : (if t194 = true then (some 0) else ((impl_in.f a0 0 4294967295).bind fun t195 => (if t195 = true then ((impl_crcMore.f ((a0) % 4294967296) a1).bind fun t196 => (some (wrap64 (t196)))) else (some 0)))) = some r := H
  have A3 := Aside0.mk A30
  clear A30
  by_cases c4 : t194 = true
  · subst c4
    have H1 : (some 0) = some r := by rw [if_pos rfl] at H; exact H
    clear H
    have H := H1
    clear H1
    obtain rfl := Option.some.inj H
    go_enter Try.func38, Try.ntmps38
    go_wp2_with (first | ((with_reducible refine gate_callee (f := 89) rfl ?_); refine goesL_ (some 6) rfl rfl Try.func89 (by kernel_rfl) rfl #[.string a1] rfl (by (try simp only [List.map_toArray, List.map_cons, List.map_nil]); first | done | rfl | (simp only [List.length_drop, List.length_take]; rfl)) ?_; (with_reducible refine (impl_isLong.calls a1 true _ A3.out).mono ?_); rintro e w' ⟨rfl, ⟨nd, rfl⟩⟩; refine ⟨_, rfl, ?_⟩))
    (try (unfold Instr.field; go_simp; unfold asAgg; go_simp; go_wp2))
    go_ret
    exact ⟨by first | rfl | (simp [errW_none, errW_some] <;> rfl) | (simp [*, errW_none, errW_some] <;> rfl), by repeat (first | (with_reducible first | exact HB.out | apply below_alloc | apply pw_below_drewN | apply below_drew1) | exact HB.out)⟩
  · replace c4 := Bool.eq_false_iff.mpr c4
    subst c4
    have H1 : ((impl_in.f a0 0 4294967295).bind fun t195 => (if t195 = true then ((impl_crcMore.f ((a0) % 4294967296) a1).bind fun t196 => (some (wrap64 (t196)))) else (some 0))) = some r := by rw [if_neg (show ¬ (false = true) by decide)] at H; exact H
    clear H
    have H := H1
    clear H1
    replace H := Option.bind_eq_some_iff.mp H
    obtain ⟨t195, A50, H⟩ := H
    replace H : (if t195 = true then ((impl_crcMore.f ((a0) % 4294967296) a1).bind fun t196 => (some (wrap64 (t196)))) else (some 0)) = some r := H
    have A5 := Aside0.mk A50
    clear A50
    by_cases c6 : t195 = true
    · subst c6
      have H1 : ((impl_crcMore.f ((a0) % 4294967296) a1).bind fun t196 => (some (wrap64 (t196)))) = some r := by rw [if_pos rfl] at H; exact H
      clear H
      have H := H1
      clear H1
      replace H := Option.bind_eq_some_iff.mp H
      obtain ⟨t196, A70, H⟩ := H
      replace H : (some (wrap64 (t196))) = some r := H
      have A7 := Aside0.mk A70
      clear A70
      obtain rfl := Option.some.inj H
      go_enter Try.func38, Try.ntmps38
      go_wp2_with (first | ((with_reducible refine gate_callee (f := 89) rfl ?_); refine goesL_ (some 6) rfl rfl Try.func89 (by kernel_rfl) rfl #[.string a1] rfl (by (try simp only [List.map_toArray, List.map_cons, List.map_nil]); first | done | rfl | (simp only [List.length_drop, List.length_take]; rfl)) ?_; (with_reducible refine (impl_isLong.calls a1 false _ A3.out).mono ?_); rintro e w' ⟨rfl, ⟨nd, rfl⟩⟩; refine ⟨_, rfl, ?_⟩) | (go_at_call 94; (with_reducible refine (impl_in.calls a0 0 4294967295 true _ A5.out).mono ?_); rintro e w' ⟨rfl, ⟨nd, rfl⟩⟩) | ((with_reducible refine gate_callee (f := 100) rfl ?_); refine goesL_ (some 15) rfl rfl Try.func100 (by kernel_rfl) rfl #[.int .u32 ((a0) % 4294967296), .string a1] rfl (by (try simp only [List.map_toArray, List.map_cons, List.map_nil]); first | done | rfl | (simp only [List.length_drop, List.length_take]; rfl)) ?_; (with_reducible refine (impl_crcMore.calls ((a0) % 4294967296) a1 t196 _ A7.out).mono ?_); rintro e w8 ⟨rfl, hb⟩; refine ⟨_, rfl, ?_⟩; have n0_ := Aside0.mk (below_step (by repeat (first | (with_reducible first | exact HB.out | apply below_alloc | apply pw_below_drewN | apply below_drew1) | exact HB.out)) hb); clear HB; have HB := n0_; clear n0_; (try clear hb); (try clear hb2); (try clear hk); (try clear hi)))
      (try (unfold Instr.field; go_simp; unfold asAgg; go_simp; go_wp2))
      go_ret
      exact ⟨by first | rfl | (simp [errW_none, errW_some] <;> rfl) | (simp [*, errW_none, errW_some] <;> rfl), by repeat (first | (with_reducible first | exact HB.out | apply below_alloc | apply pw_below_drewN | apply below_drew1) | exact HB.out)⟩
    · replace c6 := Bool.eq_false_iff.mpr c6
      subst c6
      have H1 : (some 0) = some r := by rw [if_neg (show ¬ (false = true) by decide)] at H; exact H
      clear H
      have H := H1
      clear H1
      obtain rfl := Option.some.inj H
      go_enter Try.func38, Try.ntmps38
      go_wp2_with (first | ((with_reducible refine gate_callee (f := 89) rfl ?_); refine goesL_ (some 6) rfl rfl Try.func89 (by kernel_rfl) rfl #[.string a1] rfl (by (try simp only [List.map_toArray, List.map_cons, List.map_nil]); first | done | rfl | (simp only [List.length_drop, List.length_take]; rfl)) ?_; (with_reducible refine (impl_isLong.calls a1 false _ A3.out).mono ?_); rintro e w' ⟨rfl, ⟨nd, rfl⟩⟩; refine ⟨_, rfl, ?_⟩) | (go_at_call 94; (with_reducible refine (impl_in.calls a0 0 4294967295 false _ A5.out).mono ?_); rintro e w' ⟨rfl, ⟨nd, rfl⟩⟩))
      (try (unfold Instr.field; go_simp; unfold asAgg; go_simp; go_wp2))
      go_ret
      exact ⟨by first | rfl | (simp [errW_none, errW_some] <;> rfl) | (simp [*, errW_none, errW_some] <;> rfl), by repeat (first | (with_reducible first | exact HB.out | apply below_alloc | apply pw_below_drewN | apply below_drew1) | exact HB.out)⟩

/-! ### spec_CrcMore: function 39 -/
def spec_CrcMore.f (k : Nat) (a0 : Int) (a1 : ByteArray) : Option (Int) := if (a1.size : Int) > 8000 then (some 0) else (if a0 < 0 then (some 0) else (if a0 > 4294967295 then (some 0) else ((spec_l01Crc.f k a0 a1).bind fun t197 => (some t197))))
theorem spec_CrcMore.mono : ∀ a0 a1 k, LeO (spec_CrcMore.f k a0 a1) (spec_CrcMore.f (k + 1) a0 a1) := by
  intro a0 a1 k
  unfold spec_CrcMore.f
  repeat' first
      | (with_reducible exact spec_l01Crc.mono _ _ _)
      | (with_reducible exact LeO.refl _)
      | (with_reducible exact LeO.none _)
      | (with_reducible refine LeO.ite ?_ ?_)
      | (with_reducible refine LeO.bind ?_ (fun _ => ?_))
      | exact spec_l01Crc.mono _ _ _
      | exact LeO.none _
      | refine LeO.ite ?_ ?_
      | refine LeO.bind ?_ (fun _ => ?_)
set_option maxHeartbeats 8000000 in
set_option maxRecDepth 100000 in
theorem spec_CrcMore.calls (k : Nat) (a0 : Int) (a1 : ByteArray) (r : Int) (w : World) (h : spec_CrcMore.f k a0 a1 = some r) :
    Calls Try.prog 39 #[.int .i64 a0, .string a1] w fun e w' => e = .returned (.int .i64 r) ∧ Drawn0 w w' := by
  have H : (if (a1.size : Int) > 8000 then (some 0) else (if a0 < 0 then (some 0) else (if a0 > 4294967295 then (some 0) else ((spec_l01Crc.f k a0 a1).bind fun t197 => (some t197))))) = some r := h
  clear h
  by_cases c3 : (a1.size : Int) > 8000
  · rw [if_pos c3] at H
    have c3b0 : decide (8000 < (a1.size : Int)) = true := decide_eq_true c3
    have c3b1 : decide (8000 < a1.size) = true := decide_eq_true (by omega)
    clear c3
    obtain rfl := Option.some.inj H
    go_enter Try.func39, Try.ntmps39
    go_wp2
    go_ret
    exact ⟨by first | rfl | (simp; done) | (simp [*]; done), by repeat (first | exact Drawn0.refl _ | apply Drawn0.step)⟩
  · rw [if_neg c3] at H
    have c3b0 : decide (8000 < (a1.size : Int)) = false := decide_eq_false c3
    have c3b1 : decide (8000 < a1.size) = false := decide_eq_false (by omega)
    clear c3
    by_cases c4 : a0 < 0
    · rw [if_pos c4] at H
      have c4b0 : decide (a0 < 0) = true := decide_eq_true c4
      clear c4
      obtain rfl := Option.some.inj H
      go_enter Try.func39, Try.ntmps39
      go_wp2
      go_ret
      exact ⟨by first | rfl | (simp; done) | (simp [*]; done), by repeat (first | exact Drawn0.refl _ | apply Drawn0.step)⟩
    · rw [if_neg c4] at H
      have c4b0 : decide (a0 < 0) = false := decide_eq_false c4
      clear c4
      by_cases c5 : a0 > 4294967295
      · rw [if_pos c5] at H
        have c5b0 : decide (4294967295 < a0) = true := decide_eq_true c5
        clear c5
        obtain rfl := Option.some.inj H
        go_enter Try.func39, Try.ntmps39
        go_wp2
        go_ret
        exact ⟨by first | rfl | (simp; done) | (simp [*]; done), by repeat (first | exact Drawn0.refl _ | apply Drawn0.step)⟩
      · rw [if_neg c5] at H
        have c5b0 : decide (4294967295 < a0) = false := decide_eq_false c5
        clear c5
        replace H := Option.bind_eq_some_iff.mp H
        obtain ⟨t197, A60, H⟩ := H
        replace H : (some t197) = some r := H
        have A6 := Aside0.mk A60
        clear A60
        obtain rfl := Option.some.inj H
        go_enter Try.func39, Try.ntmps39
        go_wp2_with (first | ((with_reducible refine gate_callee (f := 97) rfl ?_); refine goesL_ (some 18) rfl rfl Try.func97 (by kernel_rfl) rfl #[.int .i64 a0, .string a1] rfl (by (try simp only [List.map_toArray, List.map_cons, List.map_nil]); first | done | rfl | (simp only [List.length_drop, List.length_take]; rfl)) ?_; (with_reducible refine (spec_l01Crc.calls k a0 a1 t197 _ A6.out).mono ?_); rintro e w' ⟨rfl, ⟨nd, rfl⟩⟩; refine ⟨_, rfl, ?_⟩))
        (try (unfold Instr.field; go_simp; unfold asAgg; go_simp; go_wp2))
        go_ret
        exact ⟨by first | rfl | (simp; done) | (simp [*]; done), by repeat (first | exact Drawn0.refl _ | apply Drawn0.step)⟩

/-! ### impl_Crc: function 40 -/
def impl_Crc.f (a0 : ByteArray) : Option (Int) := (impl_CrcMore.f 0 a0).bind fun t198 => (some t198)
set_option maxHeartbeats 8000000 in
set_option maxRecDepth 100000 in
theorem impl_Crc.calls (a0 : ByteArray) (r : Int) (w : World) (h : impl_Crc.f a0 = some r) :
    Calls Try.prog 40 #[.string a0] w fun e w' => e = .returned (.int .i64 r) ∧ Below w.heap.size w w' := by
  have HB := Aside0.mk (Below.refl w.heap.size w)
  have H : ((impl_CrcMore.f 0 a0).bind fun t198 => (some t198)) = some r := h
  clear h
  replace H := Option.bind_eq_some_iff.mp H
  obtain ⟨t198, A20, H⟩ := H
  replace H : (some t198) = some r := H
  have A2 := Aside0.mk A20
  clear A20
  obtain rfl := Option.some.inj H
  go_enter Try.func40, Try.ntmps40
  go_wp2_with (first | ((with_reducible refine gate_callee (f := 38) rfl ?_); refine goesL_ (some 4) rfl rfl Try.func38 (by kernel_rfl) rfl #[.int .i64 0, .string a0] rfl (by (try simp only [List.map_toArray, List.map_cons, List.map_nil]); first | done | rfl | (simp only [List.length_drop, List.length_take]; rfl)) ?_; (with_reducible refine (impl_CrcMore.calls 0 a0 t198 _ A2.out).mono ?_); rintro e w3 ⟨rfl, hb⟩; refine ⟨_, rfl, ?_⟩; have n0_ := Aside0.mk (below_step (by repeat (first | (with_reducible first | exact HB.out | apply below_alloc | apply pw_below_drewN | apply below_drew1) | exact HB.out)) hb); clear HB; have HB := n0_; clear n0_; (try clear hb); (try clear hb2); (try clear hk); (try clear hi)))
  (try (unfold Instr.field; go_simp; unfold asAgg; go_simp; go_wp2))
  go_ret
  exact ⟨by first | rfl | (simp [errW_none, errW_some] <;> rfl) | (simp [*, errW_none, errW_some] <;> rfl), by repeat (first | (with_reducible first | exact HB.out | apply below_alloc | apply pw_below_drewN | apply below_drew1) | exact HB.out)⟩

/-! ### laws_FnSeal: function 6 -/
def laws_FnSeal.flip (s : ByteArray) (at_ v : Int) : ByteArray := strOfNums ((bytesOf s).set at_.toNat (Go.bits .xor .u8 (rd (bytesOf s) at_) ((wrap64 (1 + v)) % 256)))
def laws_FnSeal.tail (k : Nat) (t : ByteArray) (l1 : List Int) : Option Bool :=
  (spec_DrawCrcMore.f k l1).bind fun d => if wrap64 ((t.size : Int) + (d.2.size : Int)) > 8000 then some true else
  (impl_CrcMore.f d.1 d.2).bind fun a => (spec_CrcMore.f k d.1 d.2).bind fun b => if a = b then
    (impl_Crc.f t).bind fun c => (impl_CrcMore.f c d.2).bind fun x => if t.size + d.2.size ≤ 9223372036854775807 then (impl_Crc.f (t ++ d.2)).bind fun y => some (x == y) else none
  else some false
def laws_FnSeal.f (k : Nat) (l0 l1 : List Int) : Option Bool :=
  if 1048576 < l0.length then some true else if 1048576 < l1.length then some true else
  (spec_DrawSeal.f k l0).bind fun t => (impl_Seal.f t).bind fun s => (spec_Seal.f k t).bind fun s2 =>
  if s = s2 then
    (if s = ⟨#[]⟩ then laws_FnSeal.tail k t l1 else
     (laws_lwAt.f l1 0 (s.size : Int)).bind fun at_ => (laws_lwAt.f l1 1 255).bind fun v =>
     if 0 ≤ at_ ∧ at_ < (s.size : Int) ∧ s.size ≤ 9223372036854775807 then
      (impl_Unseal.f s).bind fun u => if u = (t, 0, 0) then (impl_Unseal.f (laws_FnSeal.flip s at_ v)).bind fun u2 => if u2.2.2 = 5 then laws_FnSeal.tail k t l1 else some false else some false
     else none)
  else some false
theorem laws_FnSeal.lat {W : World} {A1 : Option Addr} {c1 : Nat} {l1 : List Int} {i m r : Int} (hr : Kd.C (Kd.int .u8) W A1 l1.length l1) (h : laws_lwAt.f l1 i m = some r) : Calls Try.prog 35 #[.slice A1 l1.length c1, .int .i64 i, .int .i64 m] W fun e w' => e = .returned (.int .i64 r) ∧ w' = W := by
  unfold laws_lwAt.f at h
  by_cases h1 : m ≤ 1
  · rw [if_pos h1] at h
    obtain rfl := Option.some.inj h
    have d1 : decide (m ≤ 1) = true := decide_eq_true h1
    clear h h1 hr
    go_enter Try.func35, Try.ntmps35
    go_wp2
    go_ret
    exact ⟨rfl, rfl⟩
  · rw [if_neg h1] at h
    have d1 : decide (m ≤ 1) = false := decide_eq_false h1
    by_cases h2 : (l1.length : Int) = 0
    · rw [if_pos h2] at h
      obtain rfl := Option.some.inj h
      have d2 : ((l1.length : Int) == 0) = true := beq_iff_eq.mpr h2
      have hl : l1 = [] := List.eq_nil_of_length_eq_zero (by omega)
      subst hl
      clear h h1 h2 hr d2
      go_enter Try.func35, Try.ntmps35
      go_wp2
      go_ret
      exact ⟨rfl, rfl⟩
    · rw [if_neg h2] at h
      have d2 : ((l1.length : Int) == 0) = false := beq_eq_false_iff_ne.mpr h2
      by_cases h3 : 0 ≤ Int.tmod i (l1.length : Int)
      · rw [if_pos h3] at h
        by_cases h4 : Int.tmod i (l1.length : Int) < (l1.length : Int)
        · rw [if_pos h4] at h
          rw [if_neg (show ¬ m = 0 by omega)] at h
          have HE := Aside0.mk (Option.some.inj h)
          obtain ⟨ad, rfl, hcell⟩ := ReadsInt.at_ (Kd.reads_of_C (enc := Value.int .u8) (d := (0 : Int)) (h1 := fun _ => rfl) hr) _ h3 h4
          have d3 : decide (l1.length = 0) = false := decide_eq_false (by omega)
          have d4 : (m == 0) = false := beq_eq_false_iff_ne.mpr (by omega)
          have n4 : (m = 0) = False := eq_false (by omega)
          have n3 : (Int.tmod i (l1.length : Int) < 0) = False := eq_false (by omega)
          have n5 : ((l1.length : Int) = 0) = False := eq_false h2
          clear h h1 hr h2
          go_enter Try.func35, Try.ntmps35
          go_wp2
          go_ret; exact ⟨by rw [← HE.out]; rfl, rfl⟩
        · rw [if_neg h4] at h; cases h
      · rw [if_neg h3] at h; cases h
structure laws_FnSeal.BB (W : World) (g : Nat) (xs : List Int) : Prop where
  ex : ∃ cs : Array Value, W.heap[g]? = some (.cells cs 5 (cs.size, cs.size + 1)) ∧ xs.length ≤ cs.size ∧ ∀ j, j < xs.length → cs[j]? = some (.int .u8 (xs.getD j 0))
theorem laws_FnSeal.BB.cell {W : World} {g : Nat} {xs : List Int} (h : laws_FnSeal.BB W g xs) (j : Nat) (hj : j < xs.length) : W.cell? ⟨g, j, none⟩ = some (.int .u8 (xs.getD j 0)) := by
  obtain ⟨cs, h1, h2, h3⟩ := h.ex
  simp [World.cell?, h1, h3 j hj]
theorem laws_FnSeal.BB.frozen {W : World} {g : Nat} {xs : List Int} (h : laws_FnSeal.BB W g xs) (j : Nat) (hj : j < xs.length) : W.frozen? ⟨g, j, none⟩ = false := by
  obtain ⟨cs, h1, h2, h3⟩ := h.ex
  simp [World.frozen?, h1]
  omega
theorem laws_FnSeal.BB.set {W : World} {g : Nat} {xs : List Int} (h : laws_FnSeal.BB W g xs) (j : Nat) (hj : j < xs.length) (u : Int) : laws_FnSeal.BB (W.setCell ⟨g, j, none⟩ (.int .u8 u)) g (xs.set j u) := by
  obtain ⟨cs, h1, h2, h3⟩ := h.ex
  refine ⟨cs.setIfInBounds j (.int .u8 u), ?_, ?_, ?_⟩
  · simp [World.setCell, Array.getElem?_modify, h1]
  · simpa using h2
  · intro i hi
    rw [List.length_set] at hi
    rw [Array.getElem?_setIfInBounds]
    by_cases e : j = i
    · subst e
      have hc : j < cs.size := by omega
      simp [hc, List.getD_eq_getElem?_getD, List.getElem?_set, hj]
    · rw [if_neg e, h3 i hi]
      simp [List.getD_eq_getElem?_getD, List.getElem?_set, e]
theorem laws_FnSeal.BB.below {W W1 : World} {g : Nat} {xs : List Int} (h : laws_FnSeal.BB W g xs) (hb : Below W.heap.size W W1) : laws_FnSeal.BB W1 g xs := by
  obtain ⟨cs, h1, h2, h3⟩ := h.ex
  exact ⟨cs, blk_below h1 hb, h2, h3⟩
theorem laws_FnSeal.BB.new (W : World) (s : ByteArray) : laws_FnSeal.BB (Lib.bytesWorld W 5 s) W.heap.size (bytesOf s) := by
  refine ⟨_, Lib.bytesWorld_at_new W 5 s, ?_, ?_⟩
  · rw [bytesOf_length]; simp [Lib.bytesCells]
  · intro j hj
    have hs : j < s.size := by rw [bytesOf_length] at hj; exact hj
    have h' : j < s.data.toList.length := by rw [data_length]; exact hs
    simp [Lib.bytesCells, Array.getElem?_append, bytesOf, List.getD_eq_getElem?_getD, hs]
theorem laws_FnSeal.BB.reads {W : World} {g : Nat} {xs : List Int} (h : laws_FnSeal.BB W g xs) (hl : xs.length ≤ 9223372036854775807) : ReadsInt W .u8 (some ⟨g, 0, none⟩) xs.length xs := by
  refine ⟨rfl, hl, fun _ => ⟨_, rfl, fun j hj => ?_⟩⟩
  rw [add_plain]
  exact h.cell j hj
theorem laws_FnSeal.gen {P : Program} {c : Code} {Q : Exit → Act → World → Prop} {a : Act} {W : World} (p : World → Prop) (h : p W) (k : ∀ W1, p W1 → Code.wp P c Q a W1) : Code.wp P c Q a W := k W h
set_option maxHeartbeats 3200000 in
set_option maxRecDepth 100000 in
theorem laws_FnSeal.calls (k : Nat) (A0 : Option Addr) (c0 : Nat) (l0 : List Int) (A1 : Option Addr) (c1 : Nat) (l1 : List Int) (r : Bool) (w : World) (hr0 : Kd.C (Kd.int .u8) w A0 l0.length l0) (hc0 : l0.length ≤ c0) (hr1 : Kd.C (Kd.int .u8) w A1 l1.length l1) (hc1 : l1.length ≤ c1) (hT : Aside0 (r = true)) (h : laws_FnSeal.f k l0 l1 = some r) :
    Calls Try.prog 6 #[.slice A0 l0.length c0, .slice A1 l1.length c1] w fun e w' => e = .returned (.bool r) ∧ Below w.heap.size w w' := by
  obtain rfl := hT.out
  clear hT
  have HR0 := Aside0.mk hr0
  have HC0 := Aside0.mk hc0
  have HR1 := Aside0.mk hr1
  have HC1 := Aside0.mk hc1
  clear hr0 hc0 hr1 hc1
  have huTO := Try.underlying47
  unfold laws_FnSeal.f at h
  by_cases h0 : 1048576 < l0.length
  · have d0 : decide ((1048576 : Int) < (l0.length : Int)) = true := decide_eq_true (by omega)
    have d0' : decide (1048576 < l0.length) = true := decide_eq_true h0
    clear h h0
    go_enter Try.func6, Try.ntmps6
    go_wp2_with fail
    go_ret
    exact ⟨rfl, Below.refl _ _⟩
  rw [if_neg h0] at h
  have d0 : decide ((1048576 : Int) < (l0.length : Int)) = false := decide_eq_false (by omega)
  have d0' : decide (1048576 < l0.length) = false := decide_eq_false h0
  clear h0
  by_cases h1 : 1048576 < l1.length
  · have d1 : decide ((1048576 : Int) < (l1.length : Int)) = true := decide_eq_true (by omega)
    have d1' : decide (1048576 < l1.length) = true := decide_eq_true h1
    clear h h1
    go_enter Try.func6, Try.ntmps6
    go_wp2_with fail
    go_ret
    exact ⟨rfl, Below.refl _ _⟩
  rw [if_neg h1] at h
  have d1 : decide ((1048576 : Int) < (l1.length : Int)) = false := decide_eq_false (by omega)
  have d1' : decide (1048576 < l1.length) = false := decide_eq_false h1
  clear h1
  replace h := Option.bind_eq_some_iff.mp h
  obtain ⟨t, q, h⟩ := h
  have QT := Aside0.mk q
  clear q
  replace h := Option.bind_eq_some_iff.mp h
  obtain ⟨s, q, h⟩ := h
  have QS := Aside0.mk q
  clear q
  replace h := Option.bind_eq_some_iff.mp h
  obtain ⟨s2, q, h⟩ := h
  have QS2 := Aside0.mk q
  clear q
  by_cases hs : s = s2
  rotate_left
  · rw [if_neg hs] at h; exact absurd (Option.some.inj h) (by decide)
  rw [if_pos hs] at h
  subst hs
  have H := Aside0.mk h
  clear h
  go_enter Try.func6, Try.ntmps6
  go_wp2_with fail
  go_at_call 32
  with_reducible refine (spec_DrawSeal.calls k A0 c0 l0 t _ HR0.out HC0.out QT.out).mono ?_
  rintro e w1 ⟨rfl, hb⟩
  have BL := Aside0.mk hb
  clear hb
  go_wp2_with fail
  go_at_call 33
  with_reducible refine (impl_Seal.calls t s _ QS.out).mono ?_
  rintro e w2 ⟨rfl, hb⟩
  replace BL := Aside0.mk (below_step BL.out hb)
  clear hb
  go_wp2_with fail
  go_at_call 34
  with_reducible refine (spec_Seal.calls k t s _ QS2.out).mono ?_
  rintro e w3 ⟨rfl, hb⟩
  replace BL := Aside0.mk (below_step BL.out hb)
  clear hb
  have ss : (s.toList != s.toList) = false := by simp
  have ss' : (s.toList == s.toList) = true := by simp
  have h := H.out
  by_cases he : s = ⟨#[]⟩
  · rw [if_pos he] at h
    subst he
    clear H
    unfold laws_FnSeal.tail at h
    replace h := Option.bind_eq_some_iff.mp h
    obtain ⟨⟨d1_, d2_⟩, q, h⟩ := h
    have QD := Aside0.mk q
    clear q
    have H := Aside0.mk h
    clear h
    go_wp2_with fail
    go_at_call 37
    with_reducible refine (spec_DrawCrcMore.calls k A1 c1 l1 d1_ d2_ _ (Kd.C_below HR1.out BL.out) HC1.out QD.out).mono ?_
    rintro e w6 ⟨rfl, hb⟩
    replace BL := Aside0.mk (below_step BL.out hb)
    clear hb
    have h := H.out
    clear H
    by_cases hz : wrap64 ((t.size : Int) + (d2_.size : Int)) > 8000
    · have z0 : decide (8000 < wrap64 ((t.size : Int) + (d2_.size : Int))) = true := decide_eq_true hz
      clear h hz
      go_wp2_with fail
      go_ret
      exact ⟨rfl, BL.out⟩
    rw [if_neg hz] at h
    have z0 : decide (8000 < wrap64 ((t.size : Int) + (d2_.size : Int))) = false := decide_eq_false hz
    clear hz
    replace h := Option.bind_eq_some_iff.mp h
    obtain ⟨a_, q, h⟩ := h
    have QA_ := Aside0.mk q
    clear q
    replace h := Option.bind_eq_some_iff.mp h
    obtain ⟨b_, q, h⟩ := h
    have QB_ := Aside0.mk q
    clear q
    by_cases hab : a_ = b_
    rotate_left
    · rw [if_neg hab] at h; exact absurd (Option.some.inj h) (by decide)
    rw [if_pos hab] at h
    subst hab
    replace h := Option.bind_eq_some_iff.mp h
    obtain ⟨c_, q, h⟩ := h
    have QC_ := Aside0.mk q
    clear q
    replace h := Option.bind_eq_some_iff.mp h
    obtain ⟨x_, q, h⟩ := h
    have QX_ := Aside0.mk q
    clear q
    by_cases hs : t.size + d2_.size ≤ 9223372036854775807
    rotate_left
    · rw [if_neg hs] at h; cases h
    rw [if_pos hs] at h
    replace h := Option.bind_eq_some_iff.mp h
    obtain ⟨y_, q, h⟩ := h
    have QY_ := Aside0.mk q
    clear q
    have e3 := Option.some.inj h
    have hs0 := eq_true hs
    have hs1 : decide (t.size + d2_.size ≤ 9223372036854775807) = true := decide_eq_true hs
    have hs2 : (9223372036854775807 < t.size + d2_.size) = False := eq_false (Nat.not_lt.2 hs)
    have e4 : (a_ == a_) = true := by simp
    clear h hs
    go_wp2_with fail
    go_at_call 38
    with_reducible refine (impl_CrcMore.calls d1_ d2_ a_ _ QA_.out).mono ?_
    rintro e w17 ⟨rfl, hb⟩
    replace BL := Aside0.mk (below_step BL.out hb)
    clear hb
    go_wp2_with fail
    go_at_call 39
    with_reducible refine (spec_CrcMore.calls k d1_ d2_ a_ _ QB_.out).mono ?_
    rintro e w18 ⟨rfl, ⟨nd, rfl⟩⟩
    replace BL := Aside0.mk (pw_below_drewN BL.out nd)
    go_wp2_with fail
    go_at_call 40
    with_reducible refine (impl_Crc.calls t c_ _ QC_.out).mono ?_
    rintro e w19 ⟨rfl, hb⟩
    replace BL := Aside0.mk (below_step BL.out hb)
    clear hb
    go_wp2_with fail
    go_at_call 38
    with_reducible refine (impl_CrcMore.calls c_ d2_ x_ _ QX_.out).mono ?_
    rintro e w110 ⟨rfl, hb⟩
    replace BL := Aside0.mk (below_step BL.out hb)
    clear hb
    go_wp2_with fail
    go_at_call 40
    with_reducible refine (impl_Crc.calls (t ++ d2_) y_ _ QY_.out).mono ?_
    rintro e w111 ⟨rfl, hb⟩
    replace BL := Aside0.mk (below_step BL.out hb)
    clear hb
    go_wp2_with fail
    go_ret
    exact ⟨rfl, BL.out⟩
  · rw [if_neg he] at h
    have e1 : (s.toList == []) = false := by
      rw [beq_eq_false_iff_ne, ByteArray.toList_eq]
      intro e
      exact he (ByteArray.ext (Array.toList_inj.1 e))
    have e2 : (s.toList != []) = true := by rw [bne, e1]; rfl
    clear H
    replace h := Option.bind_eq_some_iff.mp h
    obtain ⟨at_, q, h⟩ := h
    have QA := Aside0.mk q
    clear q
    replace h := Option.bind_eq_some_iff.mp h
    obtain ⟨v, q, h⟩ := h
    have QV := Aside0.mk q
    clear q
    by_cases hv : 0 ≤ at_ ∧ at_ < (s.size : Int) ∧ s.size ≤ 9223372036854775807
    rotate_left
    · rw [if_neg hv] at h; cases h
    rw [if_pos hv] at h
    obtain ⟨v0, v1, v2⟩ := hv
    replace h := Option.bind_eq_some_iff.mp h
    obtain ⟨⟨u1, u2, u3⟩, q, h⟩ := h
    have QU := Aside0.mk q
    clear q
    by_cases hu : (u1, u2, u3) = (t, (0 : Int), (0 : Int))
    rotate_left
    · rw [if_neg hu] at h; exact absurd (Option.some.inj h) (by decide)
    rw [if_pos hu] at h
    simp only [Prod.mk.injEq] at hu
    obtain ⟨hu1, rfl, rfl⟩ := hu
    replace hu1 := hu1.symm
    subst hu1
    replace h := Option.bind_eq_some_iff.mp h
    obtain ⟨⟨y1, y2, y3⟩, q, h⟩ := h
    have QY := Aside0.mk q
    clear q
    by_cases hy : y3 = 5
    rotate_left
    · rw [if_neg hy] at h; exact absurd (Option.some.inj h) (by decide)
    rw [if_pos hy] at h
    subst hy
    have H := Aside0.mk h
    clear h
    obtain ⟨j, rfl⟩ := Int.eq_ofNat_of_zero_le v0
    have kb := fun W => print_bytes (P := Try.prog) 9 38 5 Try.underlying9 Try.underlying38 Try.underlying5 s W
    go_upto_region 9 with (fail)
    clear kb e1 e2
    have PB := Aside0.mk (show _ ∧ _ ∧ _ from ⟨laws_FnSeal.BB.new w3 s, bytes_below BL.out BL.out.size 5 s, BL.out.size⟩)
    generalize grownCap w3 s.size 0 5 = cc
    generalize Lib.bytesWorld w3 5 s = W4 at PB ⊢
    generalize w3.heap.size = g at PB ⊢
    clear BL
    obtain ⟨pb, bl, gl⟩ := PB.out
    clear PB
    have PB := Aside0.mk pb
    have BL := Aside0.mk bl
    have GL := Aside0.mk gl
    clear pb bl gl
    go_wp2_with fail
    go_at_call 35
    with_reducible refine (laws_FnSeal.lat (Kd.C_below HR1.out BL.out) QA.out).mono ?_
    rintro e w5 ⟨rfl, rfl⟩
    have hj := Aside0.mk (show j < (bytesOf s).length by rw [bytesOf_length]; omega)
    have BL' := Aside0.mk (below_drew1 BL.out)
    have cB : w5.drew.cell? ⟨g, j, none⟩ = some (.int .u8 ((bytesOf s).getD j 0)) := PB.out.cell j hj.out
    have fB : w5.drew.frozen? ⟨g, j, none⟩ = false := PB.out.frozen j hj.out
    have aB : (⟨g, 0, none⟩ : Addr).add j = ⟨g, j, none⟩ := add_plain g j
    have j0 : j < s.size := by omega
    have j1 : (s.size ≤ j) = False := eq_false (by omega)
    have j2 : ((j : Int) < 0) = False := eq_false (by omega)
    have j3 : ((s.size : Int) ≤ (j : Int)) = False := eq_false (by omega)
    clear v0 v1
    go_upto_region 10 with (fail)
    go_still_tail 12, (by kernel_rfl)
    still_call (laws_FnSeal.lat (Kd.C_below HR1.out BL'.out) QV.out)
    repeat still_step
    refine wpStill_nil ?_
    change wpList _ _ _ _ _ w5.drew
    have PB' := Aside0.mk (show laws_FnSeal.BB w5.drew g (bytesOf s) from ⟨PB.out.ex⟩)
    clear PB BL
    generalize w5.drew = W5 at cB fB BL' PB' ⊢
    go_upto_region 11 with (fail)
    obtain ⟨X, hX⟩ : ∃ X : List Int, X = (bytesOf s).set j (Go.bits .xor .u8 ((bytesOf s)[j]?.getD 0) (wrap64 (1 + v) % 256)) := ⟨_, rfl⟩
    have QX := Aside0.mk (show X.length = s.size by rw [hX, List.length_set, bytesOf_length])
    have QF := Aside0.mk (show impl_Unseal.f (strOfNums X) = some (y1, y2, 5) by
      rw [← QY.out]; unfold laws_FnSeal.flip; rw [hX]; unfold rd; simp [List.getD_eq_getElem?_getD])
    have PG := Aside0.mk (show laws_FnSeal.BB (W5.setCell ⟨g, j, none⟩ (.int .u8 (Go.bits .xor .u8 ((bytesOf s)[j]?.getD 0) (wrap64 (1 + v) % 256)))) g X ∧ Below w.heap.size w (W5.setCell ⟨g, j, none⟩ (.int .u8 (Go.bits .xor .u8 ((bytesOf s)[j]?.getD 0) (wrap64 (1 + v) % 256)))) from ⟨hX ▸ PB'.out.set j hj.out _, below_set BL'.out GL.out⟩)
    refine laws_FnSeal.gen (fun W => laws_FnSeal.BB W g X ∧ Below w.heap.size w W) PG.out ?_
    clear PG PB' BL' cB fB aB hX QY GL hj j0 j1 j2 j3
    rintro W6 ⟨pb, bl⟩
    have PB := Aside0.mk pb
    have BL := Aside0.mk bl
    clear pb bl
    go_wp2_with fail
    go_at_call 36
    with_reducible refine (impl_Unseal.calls s t 0 0 _ QU.out).mono ?_
    rintro e w7 ⟨rfl, hb⟩
    replace BL := Aside0.mk (below_step BL.out hb)
    replace PB := Aside0.mk (PB.out.below hb)
    clear hb
    have kc := string_of_reads (P := Try.prog) (src := 38) (dst := 9) (e := 5) (c := cc) Try.underlying38 Try.underlying5 Try.underlying9 (by have := PB.out.reads (by rw [QX.out]; exact v2); rw [QX.out] at this; exact this)
    have tt : (t.toList == t.toList) = true := by simp
    have tn : (t.toList != t.toList) = false := by simp
    go_wp2_with fail
    go_at_call 36
    with_reducible refine (impl_Unseal.calls (strOfNums X) y1 y2 5 _ QF.out).mono ?_
    rintro e w8 ⟨rfl, hb⟩
    replace BL := Aside0.mk (below_step BL.out hb)
    clear hb PB kc tt tn
    have h := H.out
    clear H
    go_wp2_with fail
    (try (unfold Instr.field; go_simp; unfold asAgg; go_simp))
    unfold laws_FnSeal.tail at h
    replace h := Option.bind_eq_some_iff.mp h
    obtain ⟨⟨d1_, d2_⟩, q, h⟩ := h
    have QD := Aside0.mk q
    clear q
    have H := Aside0.mk h
    clear h
    go_wp2_with fail
    go_at_call 37
    with_reducible refine (spec_DrawCrcMore.calls k A1 c1 l1 d1_ d2_ _ (Kd.C_below HR1.out BL.out) HC1.out QD.out).mono ?_
    rintro e w6 ⟨rfl, hb⟩
    replace BL := Aside0.mk (below_step BL.out hb)
    clear hb
    have h := H.out
    clear H
    by_cases hz : wrap64 ((t.size : Int) + (d2_.size : Int)) > 8000
    · have z0 : decide (8000 < wrap64 ((t.size : Int) + (d2_.size : Int))) = true := decide_eq_true hz
      clear h hz
      go_wp2_with fail
      go_ret
      exact ⟨rfl, BL.out⟩
    rw [if_neg hz] at h
    have z0 : decide (8000 < wrap64 ((t.size : Int) + (d2_.size : Int))) = false := decide_eq_false hz
    clear hz
    replace h := Option.bind_eq_some_iff.mp h
    obtain ⟨a_, q, h⟩ := h
    have QA_ := Aside0.mk q
    clear q
    replace h := Option.bind_eq_some_iff.mp h
    obtain ⟨b_, q, h⟩ := h
    have QB_ := Aside0.mk q
    clear q
    by_cases hab : a_ = b_
    rotate_left
    · rw [if_neg hab] at h; exact absurd (Option.some.inj h) (by decide)
    rw [if_pos hab] at h
    subst hab
    replace h := Option.bind_eq_some_iff.mp h
    obtain ⟨c_, q, h⟩ := h
    have QC_ := Aside0.mk q
    clear q
    replace h := Option.bind_eq_some_iff.mp h
    obtain ⟨x_, q, h⟩ := h
    have QX_ := Aside0.mk q
    clear q
    by_cases hs : t.size + d2_.size ≤ 9223372036854775807
    rotate_left
    · rw [if_neg hs] at h; cases h
    rw [if_pos hs] at h
    replace h := Option.bind_eq_some_iff.mp h
    obtain ⟨y_, q, h⟩ := h
    have QY_ := Aside0.mk q
    clear q
    have e3 := Option.some.inj h
    have hs0 := eq_true hs
    have hs1 : decide (t.size + d2_.size ≤ 9223372036854775807) = true := decide_eq_true hs
    have hs2 : (9223372036854775807 < t.size + d2_.size) = False := eq_false (Nat.not_lt.2 hs)
    have e4 : (a_ == a_) = true := by simp
    clear h hs
    go_wp2_with fail
    go_at_call 38
    with_reducible refine (impl_CrcMore.calls d1_ d2_ a_ _ QA_.out).mono ?_
    rintro e w17 ⟨rfl, hb⟩
    replace BL := Aside0.mk (below_step BL.out hb)
    clear hb
    go_wp2_with fail
    go_at_call 39
    with_reducible refine (spec_CrcMore.calls k d1_ d2_ a_ _ QB_.out).mono ?_
    rintro e w18 ⟨rfl, ⟨nd, rfl⟩⟩
    replace BL := Aside0.mk (pw_below_drewN BL.out nd)
    go_wp2_with fail
    go_at_call 40
    with_reducible refine (impl_Crc.calls t c_ _ QC_.out).mono ?_
    rintro e w19 ⟨rfl, hb⟩
    replace BL := Aside0.mk (below_step BL.out hb)
    clear hb
    go_wp2_with fail
    go_at_call 38
    with_reducible refine (impl_CrcMore.calls c_ d2_ x_ _ QX_.out).mono ?_
    rintro e w110 ⟨rfl, hb⟩
    replace BL := Aside0.mk (below_step BL.out hb)
    clear hb
    go_wp2_with fail
    go_at_call 40
    with_reducible refine (impl_Crc.calls (t ++ d2_) y_ _ QY_.out).mono ?_
    rintro e w111 ⟨rfl, hb⟩
    replace BL := Aside0.mk (below_step BL.out hb)
    clear hb
    go_wp2_with fail
    go_ret
    exact ⟨rfl, BL.out⟩

/-- THE ONE PURE STATEMENT of laws_FnSeal: yours. -/
def laws_FnSeal.Pure : Prop := ∀ (l0 : List Int) (l1 : List Int), l0.length ≤ maxLen → l0.length * 1 ≤ 140737488351232 → (∀ x ∈ l0, (Lit.int .u8 x).wf = true) → l1.length ≤ maxLen → l1.length * 1 ≤ 140737488351232 → (∀ x ∈ l1, (Lit.int .u8 x).wf = true) → ∃ k, laws_FnSeal.f k l0 l1 = some true
theorem laws_FnSeal.walk (P : laws_FnSeal.Pure) (a0 : Option Addr) (len0 cap0 : Nat) (z0 : List Int) (a1 : Option Addr) (len1 cap1 : Nat) (z1 : List Int) (w : World) (w0 : (a0 = none ∧ len0 = 0 ∧ cap0 = 0 ∧ z0 = []) ∨ ∃ x, a0 = some x ∧ len0 ≤ cap0 ∧ cap0 ≤ maxLen ∧ z0.length = cap0 ∧ (∀ i, i < z0.length → w.cell? (x.add i) = some (.int .u8 (z0.getD i 0))) ∧ ∀ n ∈ z0, (Lit.int .u8 n).wf = true) (y0 : len0 * 1 ≤ 140737488351232) (w1 : (a1 = none ∧ len1 = 0 ∧ cap1 = 0 ∧ z1 = []) ∨ ∃ x, a1 = some x ∧ len1 ≤ cap1 ∧ cap1 ≤ maxLen ∧ z1.length = cap1 ∧ (∀ i, i < z1.length → w.cell? (x.add i) = some (.int .u8 (z1.getD i 0))) ∧ ∀ n ∈ z1, (Lit.int .u8 n).wf = true) (y1 : len1 * 1 ≤ 140737488351232) :
    Calls Try.prog 6 #[.slice a0 len0 cap0, .slice a1 len1 cap1] w fun e w' => e = .returned (.bool true) ∧ Below w.heap.size w w' := by
  obtain ⟨l0, rfl, hr0, hm0, hw0, hc0⟩ := ReadsInt.ofRowC w0
  obtain ⟨l1, rfl, hr1, hm1, hw1, hc1⟩ := ReadsInt.ofRowC w1
  obtain ⟨k, h⟩ := P l0 l1 hm0 y0 hw0 hm1 y1 hw1
  refine (laws_FnSeal.calls k _ _ l0 _ _ l1 true w (Kd.C_of_reads (d := (0 : Int)) (h1 := fun _ => rfl) hr0) hc0 (Kd.C_of_reads (d := (0 : Int)) (h1 := fun _ => rfl) hr1) hc1 ⟨rfl⟩ h).mono ?_
  rintro e w' ⟨rfl, hd⟩
  exact ⟨rfl, hd⟩

end Go.Proofs.Ytkbhdiambabnnaa.PFnSeal
