import Derived.Test.YtbanbmkfdkbfiaaPFnNotex0
import Derived.Test.YtbanbmkfdkbfiaaPFnNotex4
import Derived.Test.YtbanbmkfdkbfiaaPFnNotex5
import Derived.Test.YtbanbmkfdkbfiaaPFnNotex7
import Derived.Test.YtbanbmkfdkbfiaaPFnNotex9
import Derived.Test.YtbanbmkfdkbfiaaPFnNotex11
namespace Go.Proofs.Ytbanbmkfdkbfiaa.PFnNote
open Go.RowKit Go.Proofs.YtbanbmkfdkbfiaaW.PrintWords Go.Proofs.YtbanbmkfdkbfiaaW.PrintLast Go.Proofs.YtbanbmkfdkbfiaaW.PrintMore
attribute [local go_sem] max2_int min2_int max_two min_two max_three min_three max_four min_four
set_option linter.unusedVariables false
set_option linter.unusedSimpArgs false
mutual
def spec_DrawDumpOf.l0 : Nat → List (S24) → Int → List Int → Int → Int → Int → Option ((List (S24)))
 | 0, _, _, _, _, _, _ => none
 | k + 1, x4, x5, x358000, x358001, x358002, x358003 => if x5 > 0 then ((spec_l01Src_l03Route.f k x358000 x358001 x358002 x358003).bind fun bt365 => (if x4.length < 2513169434916 then (spec_DrawDumpOf.l0 k (x4 ++ [(⟨bt365.1, bt365.2.1, bt365.2.2.1, bt365.2.2.2.1, bt365.2.2.2.2.1, bt365.2.2.2.2.2.1, bt365.2.2.2.2.2.2.1⟩ : S24)]) (wrap64 (x5 - 1)) x358000 bt365.2.2.2.2.2.2.2.1 bt365.2.2.2.2.2.2.2.2.1 bt365.2.2.2.2.2.2.2.2.2) else (none))) else ((spec_l01Src_one.f x358000 x358001 x358002 x358003 20).bind fun bt378 => (if bt378.1 = true then (spec_DrawDumpOf.l1 k ([] : List (S24)) x358000 bt378.2.1 bt378.2.2.1 bt378.2.2.2) else (some x4)))
def spec_DrawDumpOf.l1 : Nat → List (S24) → List Int → Int → Int → Int → Option ((List (S24)))
 | 0, _, _, _, _, _ => none
 | k + 1, x4, x358000, x358001, x358002, x358003 => (spec_l01Src_n.f x358000 x358001 x358002 x358003 2).bind fun bt382 => (if (x4.length : Int) < (wrap64 (60 + bt382.1)) then (if x4.length < 2513169434916 then (spec_DrawDumpOf.l1 k (x4 ++ [(⟨3, 5, 0, 0, 1, 0, false⟩ : S24)]) x358000 bt382.2.1 bt382.2.2.1 bt382.2.2.2) else (none)) else (some x4))
end
def spec_DrawDumpOf.f (k : Nat) (l0 : List Int) : Option ((List (S24))) := (spec_l01Source.f k l0).bind fun bt353 => ((spec_l01Src_n.f bt353.1 bt353.2.1 bt353.2.2.1 bt353.2.2.2 6).bind fun bt361 => (spec_DrawDumpOf.l0 k (([] : List (S24))) bt361.1 bt353.1 bt361.2.1 bt361.2.2.1 bt361.2.2.2))
set_option maxHeartbeats 8000000 in
set_option maxRecDepth 100000 in
theorem spec_DrawDumpOf.calls (k : Nat) (A0 : Option Addr) (c0 : Nat) (l0 : List Int) (r : List (S24)) (w : World) (hr0 : Kd.C (Kd.int .u8) w A0 l0.length l0) (hc0 : l0.length ≤ c0) (h : spec_DrawDumpOf.f k l0 = some r) :
  Calls Try.prog 26 #[.slice A0 l0.length c0] w fun e w' => ∃ v0_ : Value, e = .returned (v0_) ∧ Kd.R k24 24 w' w.heap.size (fun _ => True) v0_ r ∧ Below w.heap.size w w' := by
 have hu24 := Try.underlying24
 have HR0 := Aside0.mk hr0
 have HC0 := Aside0.mk hc0
 clear hr0 hc0
 have HB := Aside0.mk (Below.refl w.heap.size w)
 have H : ((spec_l01Source.f k l0).bind fun bt353 => ((spec_l01Src_n.f bt353.1 bt353.2.1 bt353.2.2.1 bt353.2.2.2 6).bind fun bt361 => (spec_DrawDumpOf.l0 k (([] : List (S24))) bt361.1 bt353.1 bt361.2.1 bt361.2.2.1 bt361.2.2.2))) = some r := h
 clear h
 replace H := Option.bind_eq_some_iff.mp H
 obtain ⟨⟨t353, t354, t355, t356⟩, A20, H⟩ := H
 try dsimp only at H
 have A2 := Aside0.mk A20
 clear A20
 obtain ⟨y358, hy358⟩ : ∃ y_ : List (S24), y_ = (([] : List (S24))) := ⟨_, rfl⟩
 replace H : ((spec_l01Src_n.f t353 t354 t355 t356 6).bind fun bt361 => (spec_DrawDumpOf.l0 k y358 bt361.1 t353 bt361.2.1 bt361.2.2.1 bt361.2.2.2)) = some r := by first | (rw [hy358]; with_reducible exact H) | (have H2_ := (Option.bind_some _ _).symm.trans H; rw [hy358]; with_reducible exact H2_) | (have H2_ := (Option.bind_some _ _).symm.trans H; with_reducible exact H2_) | with_reducible exact H | (rw [hy358]; exact H) | exact H
 have Ny358 := Aside0.mk hy358
 clear hy358
 replace H := Option.bind_eq_some_iff.mp H
 obtain ⟨⟨t361, t362, t363, t364⟩, A30, H⟩ := H
 try dsimp only at H
 have A3 := Aside0.mk A30
 clear A30
 have H' := Aside0.mk H
 clear H
 go_enter Try.func26, Try.ntmps26
 go_wp2_with (first | ((with_reducible refine gate_callee (f := 61) rfl ?_); refine goesL_ (some 7) rfl rfl Try.func61 (by kernel_rfl) rfl #[.slice A0 l0.length c0] rfl (by (try simp only [mA, mC, mN]); first | done | rfl | (simp only [List.length_drop, List.length_take]; rfl)) ?_; (with_reducible refine (spec_l01Source.calls k _ _ l0 t353 t354 t355 t356 w _ ?side1 ?side2 ?side3 A2.out).mono ?_); (case side1 => repeat (first | (with_reducible first | exact HB.out | apply below_alloc | apply pw_below_drewN | apply below_drew1) | exact HB.out)); (case side2 => exact HR0.out); (case side3 => exact HC0.out); rintro e w4 ⟨g357, rfl, hi, hb, hb2⟩; refine ⟨_, rfl, ?_⟩; have n0_ := Aside0.mk (hb); have n1_ := Aside0.mk (hi); clear HB; have HB := n0_; have HI357 := n1_; clear n0_ n1_; (try clear hb); (try clear hb2); (try clear hk); (try clear hi)) | ((with_reducible refine gate_dst (N := 8) rfl ?_); refine Kd.R_lit k24 _ 24 ?hg (N := 8) ?hd (xs := ([] : List (S24))) (inner := []) (ok := fun _ => True) (okp := fun _ => True) ?hr ?hp (fun _ hk => hk) trivial (Below.refl _ _) (Nat.le_refl _) (by simp) ?_; (case hd => rfl); (case hg => rfl); (case hr => first | (go_simp; done) | (go_simp; rfl)); (case hp => exact (Reps.none _ _)); intro v359 w5 ho6 hb hg_ hnew_; clear hg_ hnew_; (first | rw [← Ny358.out] at ho6 | (simp only [Int.reduceToNat] at ho6; rw [← Ny358.out] at ho6)); have n0_ := Aside0.mk (Kd.R_lower ho6 (below_size (by repeat (first | (with_reducible first | exact HB.out | apply below_alloc | apply pw_below_drewN | apply below_drew1 | refine below_set ?_ (IsS117.ge HI357.out)) | exact HB.out)))); have n1_ := Aside0.mk (IsS117.below (by repeat (first | (with_reducible first | exact HI357.out | apply IsS117.alloc | apply IsS117.drewN | apply IsS117.drew | apply IsS117.set_1 | apply IsS117.set_2 | apply IsS117.set_3) | exact HI357.out | exact (default : Bool))) hb); have n2_ := Aside0.mk (below_step (by repeat (first | (with_reducible first | exact HB.out | apply below_alloc | apply pw_below_drewN | apply below_drew1 | refine below_set ?_ (IsS117.ge HI357.out)) | exact HB.out)) hb); clear HI357; clear HB; have HO360 := n0_; have HI357 := n1_; have HB := n2_; clear n0_ n1_ n2_; clear hb ho6) | ((with_reducible refine gate_callee (f := 65) rfl ?_); refine goesL_ (some 10) rfl rfl Try.func65 (by kernel_rfl) rfl #[.pointer (some ⟨g357, 0, none⟩), .int .i64 6] rfl (by (try simp only [mA, mC, mN]); first | done | rfl | (simp only [List.length_drop, List.length_take]; rfl)) ?_; (with_reducible refine (spec_l01Src_n.calls g357 t353 t354 t355 t356 6 t361 t362 t363 t364 w _ ?side1 ?side2 A3.out).mono ?_); (case side1 => repeat (first | (with_reducible first | exact HI357.out | apply IsS117.alloc | apply IsS117.drewN | apply IsS117.drew | apply IsS117.set_1 | apply IsS117.set_2 | apply IsS117.set_3) | exact HI357.out | exact (default : Bool))); (case side2 => repeat (first | (with_reducible first | exact HB.out | apply below_alloc | apply pw_below_drewN | apply below_drew1 | refine below_set ?_ (IsS117.ge HI357.out)) | exact HB.out)); rintro e w7 ⟨rfl, hi, hb, hk⟩; refine ⟨_, rfl, ?_⟩; have n0_ := Aside0.mk (Kd.R_mono (Kd.R_keep (IsS117.apart (show IsS117 w _ g357 t353 t354 t355 t356 from by repeat (first | (with_reducible first | exact HI357.out | apply IsS117.alloc | apply IsS117.drewN | apply IsS117.drew | apply IsS117.set_1 | apply IsS117.set_2 | apply IsS117.set_3) | exact HI357.out | exact (default : Bool))) (by (with_reducible repeat (first | apply Kd.R_alloc | apply Kd.R_drewN | apply Kd.R_drew)); exact HO360.out) (by decide)) hk (fun _ h => h.2)) (fun _ h => h.1)); have n1_ := Aside0.mk (hb); have n2_ := Aside0.mk (hi); clear HO360; clear HB; clear HI357; have HO360 := n0_; have HB := n1_; have HI357 := n2_; clear n0_ n1_ n2_; (try clear hb); (try clear hb2); (try clear hk); (try clear hi)))
 (try (unfold Instr.field; go_simp; unfold asAgg; go_simp; go_wp2))
 go_loopg [4, 5] k (fun kq v4 v5 w' => ∃ (x4_1 : List (S24)) (x5_1 : Int) (x358001_1 : Int) (x358002_1 : Int) (x358003_1 : Int), v5 = .int .i64 x5_1 ∧ Aside0 (spec_DrawDumpOf.l0 kq x4_1 x5_1 t353 x358001_1 x358002_1 x358003_1 = some r) ∧ Aside0 (kq ≤ k) ∧ Aside0 (Kd.R k24 24 w' w.heap.size (fun _ => True) v4 x4_1) ∧ Aside0 (IsS117 w w' g357 t353 x358001_1 x358002_1 x358003_1) ∧ Aside0 (Below w.heap.size w w'))
 case atStart => exact ⟨(y358), (t361), (t362), (t363), (t364), (by first | rfl | (simp; done) | (simp [*]; done)), H', ⟨Nat.le_refl _⟩, ⟨by (with_reducible repeat (first | apply Kd.R_alloc | apply Kd.R_drewN | apply Kd.R_drew)); exact HO360.out⟩, ⟨by repeat (first | (with_reducible first | exact HI357.out | apply IsS117.alloc | apply IsS117.drewN | apply IsS117.drew | apply IsS117.set_1 | apply IsS117.set_2 | apply IsS117.set_3) | exact HI357.out | exact (default : Bool))⟩, ⟨by repeat (first | (with_reducible first | exact HB.out | apply below_alloc | apply pw_below_drewN | apply below_drew1 | refine below_set ?_ (IsS117.ge HI357.out)) | exact HB.out)⟩⟩
 case round =>
  clear H'
  try clear c2
  try clear p2
  try clear c6
  obtain ⟨x4_1, x5_1, x358001_1, x358002_1, x358003_1, rfl, HA, HK1, HO_4, HI357, HB⟩ := hrel
  cases gk with
  | zero => exact absurd HA.out (by simp [spec_DrawDumpOf.l0])
  | succ k1 =>
   have H := HA.out
   clear HA
   simp only [spec_DrawDumpOf.l0] at H
   by_cases c8 : x5_1 > 0
   ·rw [if_pos c8] at H
    have c8b0 : decide (0 < x5_1) = true := decide_eq_true c8
    clear c8
    replace H := Option.bind_eq_some_iff.mp H
    obtain ⟨⟨t365, t366, t367, t368, t369, t370, t371, t372, t373, t374⟩, A90, H⟩ := H
    try dsimp only at H
    have A9 := Aside0.mk A90
    clear A90
    by_cases c10 : x4_1.length < 2513169434916
    ·rw [if_pos c10] at H
     have LMc10 := Aside0.mk c10
     clear c10
     obtain ⟨y375, hy375⟩ : ∃ y_ : List (S24), y_ = (x4_1 ++ [(⟨t365, t366, t367, t368, t369, t370, t371⟩ : S24)]) := ⟨_, rfl⟩
     replace H : (spec_DrawDumpOf.l0 k1 y375 (wrap64 (x5_1 - 1)) t353 t372 t373 t374) = some r := by first | (rw [hy375]; with_reducible exact H) | (have H2_ := (Option.bind_some _ _).symm.trans H; rw [hy375]; with_reducible exact H2_) | (have H2_ := (Option.bind_some _ _).symm.trans H; with_reducible exact H2_) | with_reducible exact H | (rw [hy375]; exact H) | exact H
     have Ny375 := Aside0.mk hy375
     clear hy375
     have H' := Aside0.mk H
     clear H
     go_wp2_with (first | ((with_reducible refine gate_callee (f := 62) rfl ?_); refine goesL_ (some 17) rfl rfl Try.func62 (by kernel_rfl) rfl #[.pointer (some ⟨g357, 0, none⟩)] rfl (by (try simp only [mA, mC, mN]); first | done | rfl | (simp only [List.length_drop, List.length_take]; rfl)) ?_; (with_reducible refine (spec_l01Src_l03Route.calls k1 g357 t353 x358001_1 x358002_1 x358003_1 t365 t366 t367 t368 t369 t370 t371 t372 t373 t374 w _ ?side1 ?side2 A9.out).mono ?_); (case side1 => repeat (first | (with_reducible first | exact HI357.out | apply IsS117.alloc | apply IsS117.drewN | apply IsS117.drew | apply IsS117.set_1 | apply IsS117.set_2 | apply IsS117.set_3) | exact HI357.out | exact (default : Bool))); (case side2 => repeat (first | (with_reducible first | exact HB.out | apply below_alloc | apply pw_below_drewN | apply below_drew1 | refine below_set ?_ (IsS117.ge HI357.out)) | exact HB.out)); rintro e w11 ⟨rfl, hi, hb, hk⟩; refine ⟨_, rfl, ?_⟩; have n0_ := Aside0.mk (Kd.R_mono (Kd.R_keep (IsS117.apart (show IsS117 w _ g357 t353 x358001_1 x358002_1 x358003_1 from by repeat (first | (with_reducible first | exact HI357.out | apply IsS117.alloc | apply IsS117.drewN | apply IsS117.drew | apply IsS117.set_1 | apply IsS117.set_2 | apply IsS117.set_3) | exact HI357.out | exact (default : Bool))) (by (with_reducible repeat (first | apply Kd.R_alloc | apply Kd.R_drewN | apply Kd.R_drew)); exact HO_4.out) (by decide)) hk (fun _ h => h.2)) (fun _ h => h.1)); have n1_ := Aside0.mk (hb); have n2_ := Aside0.mk (hi); clear HO_4; clear HB; clear HI357; have HO_4 := n0_; have HB := n1_; have HI357 := n2_; clear n0_ n1_ n2_; (try clear hb); (try clear hb2); (try clear hk); (try clear hi)) | ((with_reducible refine gate_builtin (b := .append) (xs := #[.tmp 15, .tmp 18]) rfl ?_); at_builtin; refine Kd.R_append k24 (w0 := w) w.heap.size rfl (.tmp 15) (.tmp 18) 33 24 (.agg #[(.int .i64 0), (.int .i64 0), (.int .i64 0), (.int .i64 0), (.int .i64 0), (.int .i64 0), (.bool false)]) 56 rfl Try.underlying33 info24 rfl (by decide) (by omega) u4 x4_1 (⟨t365, t366, t367, t368, t369, t370, t371⟩ : S24) [.int .i64 t365, .int .i64 t366, .int .i64 t367, .int .i64 t368, .int .i64 t369, .int .i64 t370, .bool t371] (fun _ => True) (fun _ => False) rfl rfl ?aP (fun _ hk => hk.elim) ?aF ?aO ?aB ?aS ?aL ?_; (case aP => exact k24_mkM _ _ _ (⟨t365, t366, t367, t368, t369, t370, t371⟩ : S24)); (case aB => exact (by repeat (first | (with_reducible first | exact HB.out | apply below_alloc | apply pw_below_drewN | apply below_drew1 | refine below_set ?_ (IsS117.ge HI357.out)) | exact HB.out))); (case aF => exact (fun _ _ => trivial)); (case aO => exact (by (with_reducible repeat (first | apply Kd.R_alloc | apply Kd.R_drewN | apply Kd.R_drew)); exact HO_4.out)); (case aS => exact (below_size (by repeat (first | (with_reducible first | exact HB.out | apply below_alloc | apply pw_below_drewN | apply below_drew1 | refine below_set ?_ (IsS117.ge HI357.out)) | exact HB.out)))); (case aL => have := LMc10.out; omega); intro v376 w12 ho hb hg hat; rw [← Ny375.out] at ho; have n0_ := Aside0.mk (IsS117.grown (by repeat (first | (with_reducible first | exact HI357.out | apply IsS117.alloc | apply IsS117.drewN | apply IsS117.drew | apply IsS117.set_1 | apply IsS117.set_2 | apply IsS117.set_3) | exact HI357.out | exact (default : Bool))) hg (IsS117.own_ne HI357.out HO_4.out (by decide))); have n1_ := Aside0.mk (hb); have n2_ := Aside0.mk (ho); clear HI357; clear HB; clear HO_4; have HI357 := n0_; have HB := n1_; have HO377 := n2_; clear n0_ n1_ n2_; clear ho hb hg hat))
     (try (unfold Instr.field; go_simp; unfold asAgg; go_simp; go_wp2))
     go_roundg k1
     case measure => have := HK1.out; omega
     case rel => exact ⟨(y375), (wrap64 (x5_1 - 1)), (t372), (t373), (t374), (by first | rfl | (simp; done) | (simp [*]; done)), H', ⟨by have := HK1.out; omega⟩, ⟨by (with_reducible repeat (first | apply Kd.R_alloc | apply Kd.R_drewN | apply Kd.R_drew)); exact HO377.out⟩, ⟨by repeat (first | (with_reducible first | exact HI357.out | apply IsS117.alloc | apply IsS117.drewN | apply IsS117.drew | apply IsS117.set_1 | apply IsS117.set_2 | apply IsS117.set_3) | exact HI357.out | exact (default : Bool))⟩, ⟨by repeat (first | (with_reducible first | exact HB.out | apply below_alloc | apply pw_below_drewN | apply below_drew1 | refine below_set ?_ (IsS117.ge HI357.out)) | exact HB.out)⟩⟩
    ·rw [if_neg c10] at H
     exact absurd H (by simp)
   ·rw [if_neg c8] at H
    have c8b0 : decide (0 < x5_1) = false := decide_eq_false c8
    clear c8
    replace H := Option.bind_eq_some_iff.mp H
    obtain ⟨⟨t378, t379, t380, t381⟩, A130, H⟩ := H
    try dsimp only at H
    have A13 := Aside0.mk A130
    clear A130
    by_cases c14 : t378 = true
    ·subst c14
     have H1 : (spec_DrawDumpOf.l1 k1 ([] : List (S24)) t353 t379 t380 t381) = some r := by rw [if_pos rfl] at H; exact H
     clear H
     have H := H1
     clear H1
     have H' := Aside0.mk H
     clear H
     go_wp2_with (first | ((with_reducible refine gate_callee (f := 69) rfl ?_); refine goesL_ (some 21) rfl rfl Try.func69 (by kernel_rfl) rfl #[.pointer (some ⟨g357, 0, none⟩), .int .i64 20] rfl (by (try simp only [mA, mC, mN]); first | done | rfl | (simp only [List.length_drop, List.length_take]; rfl)) ?_; (with_reducible refine (spec_l01Src_one.calls g357 t353 x358001_1 x358002_1 x358003_1 20 true t379 t380 t381 w _ ?side1 ?side2 A13.out).mono ?_); (case side1 => repeat (first | (with_reducible first | exact HI357.out | apply IsS117.alloc | apply IsS117.drewN | apply IsS117.drew | apply IsS117.set_1 | apply IsS117.set_2 | apply IsS117.set_3) | exact HI357.out | exact (default : Bool))); (case side2 => repeat (first | (with_reducible first | exact HB.out | apply below_alloc | apply pw_below_drewN | apply below_drew1 | refine below_set ?_ (IsS117.ge HI357.out)) | exact HB.out)); rintro e w15 ⟨rfl, hi, hb, hk⟩; refine ⟨_, rfl, ?_⟩; have n0_ := Aside0.mk (Kd.R_mono (Kd.R_keep (IsS117.apart (show IsS117 w _ g357 t353 x358001_1 x358002_1 x358003_1 from by repeat (first | (with_reducible first | exact HI357.out | apply IsS117.alloc | apply IsS117.drewN | apply IsS117.drew | apply IsS117.set_1 | apply IsS117.set_2 | apply IsS117.set_3) | exact HI357.out | exact (default : Bool))) (by (with_reducible repeat (first | apply Kd.R_alloc | apply Kd.R_drewN | apply Kd.R_drew)); exact HO_4.out) (by decide)) hk (fun _ h => h.2)) (fun _ h => h.1)); have n1_ := Aside0.mk (hb); have n2_ := Aside0.mk (hi); clear HO_4; clear HB; clear HI357; have HO_4 := n0_; have HB := n1_; have HI357 := n2_; clear n0_ n1_ n2_; (try clear hb); (try clear hb2); (try clear hk); (try clear hi)))
     (try (unfold Instr.field; go_simp; unfold asAgg; go_simp; go_wp2))
     go_loopg [4] k1 (fun kq v4 w' => ∃ (x4_2 : List (S24)) (x358001_2 : Int) (x358002_2 : Int) (x358003_2 : Int), Aside0 (spec_DrawDumpOf.l1 kq x4_2 t353 x358001_2 x358002_2 x358003_2 = some r) ∧ Aside0 (kq ≤ k1) ∧ Aside0 (Kd.R k24 24 w' w.heap.size (fun _ => True) v4 x4_2) ∧ Aside0 (IsS117 w w' g357 t353 x358001_2 x358002_2 x358003_2) ∧ Aside0 (Below w.heap.size w w'))
     case atStart => exact ⟨(([] : List (S24))), (t379), (t380), (t381), H', ⟨Nat.le_refl _⟩, ⟨by first | exact Kd.R_nil _ _ _ _ _ | exact Kd.N_nil _ _ _ _ _ | exact Kd.V_nil _ _ _ _ _ | exact Kd.Q_nil _ _ _ _ _ | exact Kd.S_nil _ _ _ _ _⟩, ⟨by repeat (first | (with_reducible first | exact HI357.out | apply IsS117.alloc | apply IsS117.drewN | apply IsS117.drew | apply IsS117.set_1 | apply IsS117.set_2 | apply IsS117.set_3) | exact HI357.out | exact (default : Bool))⟩, ⟨by repeat (first | (with_reducible first | exact HB.out | apply below_alloc | apply pw_below_drewN | apply below_drew1 | refine below_set ?_ (IsS117.ge HI357.out)) | exact HB.out)⟩⟩
     case round =>
      clear H'
      try clear c1
      try clear c2
      try clear p2
      try clear c6
      try clear p6
      try clear c8
      try clear c8b0
      try clear c10
      try clear c14
      try clear p2
      obtain ⟨x4_2, x358001_2, x358002_2, x358003_2, HA, HK2, HO_4, HI357, HB⟩ := hrel
      cases gk with
      | zero => exact absurd HA.out (by simp [spec_DrawDumpOf.l1])
      | succ k2 =>
       have H := HA.out
       clear HA
       simp only [spec_DrawDumpOf.l1] at H
       replace H := Option.bind_eq_some_iff.mp H
       obtain ⟨⟨t382, t383, t384, t385⟩, A160, H⟩ := H
       try dsimp only at H
       have A16 := Aside0.mk A160
       clear A160
       by_cases c17 : (x4_2.length : Int) < (wrap64 (60 + t382))
       ·rw [if_pos c17] at H
        have c17b0 : decide ((x4_2.length : Int) < (wrap64 (60 + t382))) = true := decide_eq_true c17
        clear c17
        by_cases c18 : x4_2.length < 2513169434916
        ·rw [if_pos c18] at H
         have LMc18 := Aside0.mk c18
         clear c18
         obtain ⟨y386, hy386⟩ : ∃ y_ : List (S24), y_ = (x4_2 ++ [(⟨3, 5, 0, 0, 1, 0, false⟩ : S24)]) := ⟨_, rfl⟩
         replace H : (spec_DrawDumpOf.l1 k2 y386 t353 t383 t384 t385) = some r := by first | (rw [hy386]; with_reducible exact H) | (have H2_ := (Option.bind_some _ _).symm.trans H; rw [hy386]; with_reducible exact H2_) | (have H2_ := (Option.bind_some _ _).symm.trans H; with_reducible exact H2_) | with_reducible exact H | (rw [hy386]; exact H) | exact H
         have Ny386 := Aside0.mk hy386
         clear hy386
         have H' := Aside0.mk H
         clear H
         obtain ⟨Ao19, co19, eo19⟩ := Kd.R_slice HO_4.out
         subst eo19
         go_wp2_with (first | ((with_reducible refine gate_callee (f := 65) rfl ?_); refine goesL_ (some 25) rfl rfl Try.func65 (by kernel_rfl) rfl #[.pointer (some ⟨g357, 0, none⟩), .int .i64 2] rfl (by (try simp only [mA, mC, mN]); first | done | rfl | (simp only [List.length_drop, List.length_take]; rfl)) ?_; (with_reducible refine (spec_l01Src_n.calls g357 t353 x358001_2 x358002_2 x358003_2 2 t382 t383 t384 t385 w _ ?side1 ?side2 A16.out).mono ?_); (case side1 => repeat (first | (with_reducible first | exact HI357.out | apply IsS117.alloc | apply IsS117.drewN | apply IsS117.drew | apply IsS117.set_1 | apply IsS117.set_2 | apply IsS117.set_3) | exact HI357.out | exact (default : Bool))); (case side2 => repeat (first | (with_reducible first | exact HB.out | apply below_alloc | apply pw_below_drewN | apply below_drew1 | refine below_set ?_ (IsS117.ge HI357.out)) | exact HB.out)); rintro e w20 ⟨rfl, hi, hb, hk⟩; refine ⟨_, rfl, ?_⟩; have n0_ := Aside0.mk (Kd.R_mono (Kd.R_keep (IsS117.apart (show IsS117 w _ g357 t353 x358001_2 x358002_2 x358003_2 from by repeat (first | (with_reducible first | exact HI357.out | apply IsS117.alloc | apply IsS117.drewN | apply IsS117.drew | apply IsS117.set_1 | apply IsS117.set_2 | apply IsS117.set_3) | exact HI357.out | exact (default : Bool))) (by (with_reducible repeat (first | apply Kd.R_alloc | apply Kd.R_drewN | apply Kd.R_drew)); exact HO_4.out) (by decide)) hk (fun _ h => h.2)) (fun _ h => h.1)); have n1_ := Aside0.mk (hb); have n2_ := Aside0.mk (hi); clear HO_4; clear HB; clear HI357; have HO_4 := n0_; have HB := n1_; have HI357 := n2_; clear n0_ n1_ n2_; (try clear hb); (try clear hb2); (try clear hk); (try clear hi)) | ((with_reducible refine gate_builtin (b := .append) (xs := #[.tmp 28, .tmp 30]) rfl ?_); at_builtin; refine Kd.R_append k24 (w0 := w) w.heap.size rfl (.tmp 28) (.tmp 30) 33 24 (.agg #[(.int .i64 0), (.int .i64 0), (.int .i64 0), (.int .i64 0), (.int .i64 0), (.int .i64 0), (.bool false)]) 56 rfl Try.underlying33 info24 rfl (by decide) (by omega) (.slice Ao19 x4_2.length co19) x4_2 (⟨3, 5, 0, 0, 1, 0, false⟩ : S24) [.int .i64 3, .int .i64 5, .int .i64 0, .int .i64 0, .int .i64 1, .int .i64 0, .bool false] (fun _ => True) (fun _ => False) rfl rfl ?aP (fun _ hk => hk.elim) ?aF ?aO ?aB ?aS ?aL ?_; (case aP => exact k24_mkM _ _ _ (⟨3, 5, 0, 0, 1, 0, false⟩ : S24)); (case aB => exact (by repeat (first | (with_reducible first | exact HB.out | apply below_alloc | apply pw_below_drewN | apply below_drew1 | refine below_set ?_ (IsS117.ge HI357.out)) | exact HB.out))); (case aF => exact (fun _ _ => trivial)); (case aO => exact (by (with_reducible repeat (first | apply Kd.R_alloc | apply Kd.R_drewN | apply Kd.R_drew)); exact HO_4.out)); (case aS => exact (below_size (by repeat (first | (with_reducible first | exact HB.out | apply below_alloc | apply pw_below_drewN | apply below_drew1 | refine below_set ?_ (IsS117.ge HI357.out)) | exact HB.out)))); (case aL => have := LMc18.out; omega); intro v387 w21 ho hb hg hat; rw [← Ny386.out] at ho; have n0_ := Aside0.mk (IsS117.grown (by repeat (first | (with_reducible first | exact HI357.out | apply IsS117.alloc | apply IsS117.drewN | apply IsS117.drew | apply IsS117.set_1 | apply IsS117.set_2 | apply IsS117.set_3) | exact HI357.out | exact (default : Bool))) hg (IsS117.own_ne HI357.out HO_4.out (by decide))); have n1_ := Aside0.mk (hb); have n2_ := Aside0.mk (ho); clear HI357; clear HB; clear HO_4; have HI357 := n0_; have HB := n1_; have HO388 := n2_; clear n0_ n1_ n2_; clear ho hb hg hat))
         (try (unfold Instr.field; go_simp; unfold asAgg; go_simp; go_wp2))
         go_roundg k2
         case measure => have := HK1.out; have := HK2.out; omega
         case rel => exact ⟨(y386), (t383), (t384), (t385), H', ⟨by have := HK1.out; have := HK2.out; omega⟩, ⟨by (with_reducible repeat (first | apply Kd.R_alloc | apply Kd.R_drewN | apply Kd.R_drew)); exact HO388.out⟩, ⟨by repeat (first | (with_reducible first | exact HI357.out | apply IsS117.alloc | apply IsS117.drewN | apply IsS117.drew | apply IsS117.set_1 | apply IsS117.set_2 | apply IsS117.set_3) | exact HI357.out | exact (default : Bool))⟩, ⟨by repeat (first | (with_reducible first | exact HB.out | apply below_alloc | apply pw_below_drewN | apply below_drew1 | refine below_set ?_ (IsS117.ge HI357.out)) | exact HB.out)⟩⟩
        ·rw [if_neg c18] at H
         exact absurd H (by simp)
       ·rw [if_neg c17] at H
        have c17b0 : decide ((x4_2.length : Int) < (wrap64 (60 + t382))) = false := decide_eq_false c17
        clear c17
        obtain rfl := Option.some.inj H
        obtain ⟨Ao22, co22, eo22⟩ := Kd.R_slice HO_4.out
        subst eo22
        go_wp2_with (first | ((with_reducible refine gate_callee (f := 65) rfl ?_); refine goesL_ (some 25) rfl rfl Try.func65 (by kernel_rfl) rfl #[.pointer (some ⟨g357, 0, none⟩), .int .i64 2] rfl (by (try simp only [mA, mC, mN]); first | done | rfl | (simp only [List.length_drop, List.length_take]; rfl)) ?_; (with_reducible refine (spec_l01Src_n.calls g357 t353 x358001_2 x358002_2 x358003_2 2 t382 t383 t384 t385 w _ ?side1 ?side2 A16.out).mono ?_); (case side1 => repeat (first | (with_reducible first | exact HI357.out | apply IsS117.alloc | apply IsS117.drewN | apply IsS117.drew | apply IsS117.set_1 | apply IsS117.set_2 | apply IsS117.set_3) | exact HI357.out | exact (default : Bool))); (case side2 => repeat (first | (with_reducible first | exact HB.out | apply below_alloc | apply pw_below_drewN | apply below_drew1 | refine below_set ?_ (IsS117.ge HI357.out)) | exact HB.out)); rintro e w23 ⟨rfl, hi, hb, hk⟩; refine ⟨_, rfl, ?_⟩; have n0_ := Aside0.mk (Kd.R_mono (Kd.R_keep (IsS117.apart (show IsS117 w _ g357 t353 x358001_2 x358002_2 x358003_2 from by repeat (first | (with_reducible first | exact HI357.out | apply IsS117.alloc | apply IsS117.drewN | apply IsS117.drew | apply IsS117.set_1 | apply IsS117.set_2 | apply IsS117.set_3) | exact HI357.out | exact (default : Bool))) (by (with_reducible repeat (first | apply Kd.R_alloc | apply Kd.R_drewN | apply Kd.R_drew)); exact HO_4.out) (by decide)) hk (fun _ h => h.2)) (fun _ h => h.1)); have n1_ := Aside0.mk (hb); have n2_ := Aside0.mk (hi); clear HO_4; clear HB; clear HI357; have HO_4 := n0_; have HB := n1_; have HI357 := n2_; clear n0_ n1_ n2_; (try clear hb); (try clear hb2); (try clear hk); (try clear hi)))
        (try (unfold Instr.field; go_simp; unfold asAgg; go_simp; go_wp2))
        go_ret
        exact ⟨_, by first | rfl | (simp [errW_none, errW_some] <;> rfl) | (simp [*, errW_none, errW_some] <;> rfl), by (with_reducible repeat (first | apply Kd.R_alloc | apply Kd.R_drewN | apply Kd.R_drew)); exact HO_4.out, by repeat (first | (with_reducible first | exact HB.out | apply below_alloc | apply pw_below_drewN | apply below_drew1 | refine below_set ?_ (IsS117.ge HI357.out)) | exact HB.out)⟩
    ·replace c14 := Bool.eq_false_iff.mpr c14
     subst c14
     have H1 : (some x4_1) = some r := by rw [if_neg (show ¬ (false = true) by decide)] at H; exact H
     clear H
     have H := H1
     clear H1
     obtain rfl := Option.some.inj H
     go_wp2_with (first | ((with_reducible refine gate_callee (f := 69) rfl ?_); refine goesL_ (some 21) rfl rfl Try.func69 (by kernel_rfl) rfl #[.pointer (some ⟨g357, 0, none⟩), .int .i64 20] rfl (by (try simp only [mA, mC, mN]); first | done | rfl | (simp only [List.length_drop, List.length_take]; rfl)) ?_; (with_reducible refine (spec_l01Src_one.calls g357 t353 x358001_1 x358002_1 x358003_1 20 false t379 t380 t381 w _ ?side1 ?side2 A13.out).mono ?_); (case side1 => repeat (first | (with_reducible first | exact HI357.out | apply IsS117.alloc | apply IsS117.drewN | apply IsS117.drew | apply IsS117.set_1 | apply IsS117.set_2 | apply IsS117.set_3) | exact HI357.out | exact (default : Bool))); (case side2 => repeat (first | (with_reducible first | exact HB.out | apply below_alloc | apply pw_below_drewN | apply below_drew1 | refine below_set ?_ (IsS117.ge HI357.out)) | exact HB.out)); rintro e w24 ⟨rfl, hi, hb, hk⟩; refine ⟨_, rfl, ?_⟩; have n0_ := Aside0.mk (Kd.R_mono (Kd.R_keep (IsS117.apart (show IsS117 w _ g357 t353 x358001_1 x358002_1 x358003_1 from by repeat (first | (with_reducible first | exact HI357.out | apply IsS117.alloc | apply IsS117.drewN | apply IsS117.drew | apply IsS117.set_1 | apply IsS117.set_2 | apply IsS117.set_3) | exact HI357.out | exact (default : Bool))) (by (with_reducible repeat (first | apply Kd.R_alloc | apply Kd.R_drewN | apply Kd.R_drew)); exact HO_4.out) (by decide)) hk (fun _ h => h.2)) (fun _ h => h.1)); have n1_ := Aside0.mk (hb); have n2_ := Aside0.mk (hi); clear HO_4; clear HB; clear HI357; have HO_4 := n0_; have HB := n1_; have HI357 := n2_; clear n0_ n1_ n2_; (try clear hb); (try clear hb2); (try clear hk); (try clear hi)))
     (try (unfold Instr.field; go_simp; unfold asAgg; go_simp; go_wp2))
     go_ret
     exact ⟨_, by first | rfl | (simp [errW_none, errW_some] <;> rfl) | (simp [*, errW_none, errW_some] <;> rfl), by (with_reducible repeat (first | apply Kd.R_alloc | apply Kd.R_drewN | apply Kd.R_drew)); exact HO_4.out, by repeat (first | (with_reducible first | exact HB.out | apply below_alloc | apply pw_below_drewN | apply below_drew1 | refine below_set ?_ (IsS117.ge HI357.out)) | exact HB.out)⟩
def impl_DumpOf.l0 : Nat → List ByteArray → List (S24) → Int → Int → Option (List ByteArray)
 | 0, _, _, _, _ => none
 | k + 1, x3, x10, x11, x12 => if x12 < x11 then (if 0 ≤ x12 then (if x12 < (x10.length : Int) then ((impl_RouteRight.f k ((rd_T24 x10 x12).f0) ((rd_T24 x10 x12).f1) ((rd_T24 x10 x12).f2) ((rd_T24 x10 x12).f3) ((rd_T24 x10 x12).f4) ((rd_T24 x10 x12).f5) ((rd_T24 x10 x12).f6)).bind fun t398 => (if t398 = true then ((impl_NoteBytes.f k 1 ((rd_T24 x10 x12).f0) ((rd_T24 x10 x12).f1) ((rd_T24 x10 x12).f2) ((rd_T24 x10 x12).f3) ((rd_T24 x10 x12).f4) ((rd_T24 x10 x12).f5) ((rd_T24 x10 x12).f6)).bind fun t399 => (if x3.length < 8796093022208 then (impl_DumpOf.l0 k (x3 ++ [t399]) x10 x11 (wrap64 (x12 + 1))) else (none))) else (some ([] : List ByteArray)))) else (none)) else (none)) else ((impl_NoteBytes.f k 3 0 0 0 0 0 0 false).bind fun t392 => (if x3.length < 8796093022208 then (some (x3 ++ [t392])) else (none)))
def impl_DumpOf.f (k : Nat) (l0 : List (S24)) : Option (List ByteArray) := if (l0.length : Int) > 60 then (some ([] : List ByteArray)) else (impl_DumpOf.l0 k (([] : List ByteArray)) l0 (l0.length : Int) 0)
set_option maxHeartbeats 8000000 in
set_option maxRecDepth 100000 in
theorem impl_DumpOf.calls (k : Nat) (A0 : Option Addr) (c0 : Nat) (l0 : List (S24)) (r : List ByteArray) (w : World) (hr0 : Kd.C k24 w A0 l0.length l0) (hc0 : l0.length ≤ c0) (h : impl_DumpOf.f k l0 = some r) :
  Calls Try.prog 27 #[.slice A0 l0.length c0] w fun e w' => ∃ v0_ : Value, e = .returned (v0_) ∧ Kd.R Kd.string 9 w' w.heap.size (fun _ => True) v0_ r ∧ Below w.heap.size w w' := by
 have hu24 := Try.underlying24
 have hu42 := Try.underlying42
 have HR0 := Aside0.mk hr0
 have HC0 := Aside0.mk hc0
 clear hr0 hc0
 have HB := Aside0.mk (Below.refl w.heap.size w)
 have H : (if (l0.length : Int) > 60 then (some ([] : List ByteArray)) else (impl_DumpOf.l0 k (([] : List ByteArray)) l0 (l0.length : Int) 0)) = some r := h
 clear h
 by_cases c2 : (l0.length : Int) > 60
 ·rw [if_pos c2] at H
  have c2b0 : decide (60 < (l0.length : Int)) = true := decide_eq_true c2
  have c2b1 : decide (60 < l0.length) = true := decide_eq_true (by omega)
  clear c2
  obtain rfl := Option.some.inj H
  go_enter Try.func27, Try.ntmps27
  go_wp2
  go_ret
  exact ⟨_, by first | rfl | (simp [errW_none, errW_some] <;> rfl) | (simp [*, errW_none, errW_some] <;> rfl), by first | exact Kd.R_nil _ _ _ _ _ | exact Kd.N_nil _ _ _ _ _ | exact Kd.V_nil _ _ _ _ _ | exact Kd.Q_nil _ _ _ _ _ | exact Kd.S_nil _ _ _ _ _, by repeat (first | (with_reducible first | exact HB.out | apply below_alloc | apply pw_below_drewN | apply below_drew1) | exact HB.out)⟩
 ·rw [if_neg c2] at H
  have c2b0 : decide (60 < (l0.length : Int)) = false := decide_eq_false c2
  have c2b1 : decide (60 < l0.length) = false := decide_eq_false (by omega)
  clear c2
  obtain ⟨y389, hy389⟩ : ∃ y_ : List ByteArray, y_ = (([] : List ByteArray)) := ⟨_, rfl⟩
  replace H : (impl_DumpOf.l0 k y389 l0 (l0.length : Int) 0) = some r := by first | (rw [hy389]; with_reducible exact H) | (have H2_ := (Option.bind_some _ _).symm.trans H; rw [hy389]; with_reducible exact H2_) | (have H2_ := (Option.bind_some _ _).symm.trans H; with_reducible exact H2_) | with_reducible exact H | (rw [hy389]; exact H) | exact H
  have Ny389 := Aside0.mk hy389
  clear hy389
  have H' := Aside0.mk H
  clear H
  go_enter Try.func27, Try.ntmps27
  go_wp2_with (first | ((with_reducible refine gate_dst (N := 9) rfl ?_); refine Kd.R_lit Kd.string _ 9 ?hg (N := 9) ?hd (xs := ([] : List ByteArray)) (inner := []) (ok := fun _ => True) (okp := fun _ => True) ?hr ?hp (fun _ hk => hk) trivial (Below.refl _ _) (Nat.le_refl _) (by simp) ?_; (case hd => rfl); (case hg => rfl); (case hr => first | (go_simp; done) | (go_simp; rfl)); (case hp => exact (Reps.none _ _)); intro v390 w3 ho4 hb hg_ hnew_; clear hg_ hnew_; (first | rw [← Ny389.out] at ho4 | (simp only [Int.reduceToNat] at ho4; rw [← Ny389.out] at ho4)); have n0_ := Aside0.mk (Kd.R_lower ho4 (below_size (by repeat (first | (with_reducible first | exact HB.out | apply below_alloc | apply pw_below_drewN | apply below_drew1) | exact HB.out)))); have n1_ := Aside0.mk (below_step (by repeat (first | (with_reducible first | exact HB.out | apply below_alloc | apply pw_below_drewN | apply below_drew1) | exact HB.out)) hb); clear HB; have HO391 := n0_; have HB := n1_; clear n0_ n1_; clear hb ho4))
  (try (unfold Instr.field; go_simp; unfold asAgg; go_simp; go_wp2))
  go_loopg [3, 12] k (fun kq v3 v12 w' => ∃ (x3_1 : List ByteArray) (x12_1 : Int), v12 = .int .i64 x12_1 ∧ Aside0 (impl_DumpOf.l0 kq x3_1 l0 (l0.length : Int) x12_1 = some r) ∧ Aside0 (kq ≤ k) ∧ Aside0 (Kd.R Kd.string 9 w' w.heap.size (fun _ => True) v3 x3_1) ∧ Aside0 (Below w.heap.size w w'))
  case atStart => exact ⟨(y389), (0), (by first | rfl | (simp; done) | (simp [*]; done)), H', ⟨Nat.le_refl _⟩, ⟨by (with_reducible repeat (first | apply Kd.R_alloc | apply Kd.R_drewN | apply Kd.R_drew)); exact HO391.out⟩, ⟨by repeat (first | (with_reducible first | exact HB.out | apply below_alloc | apply pw_below_drewN | apply below_drew1) | exact HB.out)⟩⟩
  case round =>
   clear H'
   try clear c2
   try clear c2b0
   try clear c2b1
   try clear p2
   obtain ⟨x3_1, x12_1, rfl, HA, HK1, HO_3, HB⟩ := hrel
   cases gk with
   | zero => exact absurd HA.out (by simp [impl_DumpOf.l0])
   | succ k1 =>
    have H := HA.out
    clear HA
    simp only [impl_DumpOf.l0] at H
    by_cases c5 : x12_1 < (l0.length : Int)
    ·rw [if_pos c5] at H
     have c5b0 : decide (x12_1 < (l0.length : Int)) = true := decide_eq_true c5
     clear c5
     by_cases c6 : 0 ≤ x12_1
     ·rw [if_pos c6] at H
      have c6b0 : decide (0 ≤ x12_1) = true := decide_eq_true c6
      clear c6
      by_cases c7 : x12_1 < (l0.length : Int)
      ·rw [if_pos c7] at H
       have c7b0 : decide (x12_1 < (l0.length : Int)) = true := decide_eq_true c7
       clear c7
       replace H := Option.bind_eq_some_iff.mp H
       obtain ⟨t398, A80, H⟩ := H
       try dsimp only at H
       have A8 := Aside0.mk A80
       clear A80
       by_cases c9 : t398 = true
       ·subst c9
        have H1 : ((impl_NoteBytes.f k1 1 ((rd_T24 l0 x12_1).f0) ((rd_T24 l0 x12_1).f1) ((rd_T24 l0 x12_1).f2) ((rd_T24 l0 x12_1).f3) ((rd_T24 l0 x12_1).f4) ((rd_T24 l0 x12_1).f5) ((rd_T24 l0 x12_1).f6)).bind fun t399 => (if x3_1.length < 8796093022208 then (impl_DumpOf.l0 k1 (x3_1 ++ [t399]) l0 (l0.length : Int) (wrap64 (x12_1 + 1))) else (none))) = some r := by rw [if_pos rfl] at H; exact H
        clear H
        have H := H1
        clear H1
        replace H := Option.bind_eq_some_iff.mp H
        obtain ⟨t399, A100, H⟩ := H
        try dsimp only at H
        have A10 := Aside0.mk A100
        clear A100
        by_cases c11 : x3_1.length < 8796093022208
        ·rw [if_pos c11] at H
         have LMc11 := Aside0.mk c11
         clear c11
         obtain ⟨y400, hy400⟩ : ∃ y_ : List ByteArray, y_ = (x3_1 ++ [t399]) := ⟨_, rfl⟩
         replace H : (impl_DumpOf.l0 k1 y400 l0 (l0.length : Int) (wrap64 (x12_1 + 1))) = some r := by first | (rw [hy400]; with_reducible exact H) | (have H2_ := (Option.bind_some _ _).symm.trans H; rw [hy400]; with_reducible exact H2_) | (have H2_ := (Option.bind_some _ _).symm.trans H; with_reducible exact H2_) | with_reducible exact H | (rw [hy400]; exact H) | exact H
         have Ny400 := Aside0.mk hy400
         clear hy400
         have H' := Aside0.mk H
         clear H
         have p396 : 0 ≤ (x12_1 : Int) := of_decide_eq_true (by first | (with_reducible assumption) | assumption)
         have q396 : x12_1 < (l0.length : Int) := of_decide_eq_true (by first | (with_reducible assumption) | assumption)
         obtain ⟨ad396, e396, hx396_0, hx396_1, hx396_2, hx396_3, hx396_4, hx396_5, hx396_6⟩ := at_T24 HR0.out x12_1 p396 q396
         cases e396
         replace hx396_0 := (HB.out.cell (World.block_lt_of_cell? w _ hx396_0)).trans hx396_0
         replace hx396_1 := (HB.out.cell (World.block_lt_of_cell? w _ hx396_1)).trans hx396_1
         replace hx396_2 := (HB.out.cell (World.block_lt_of_cell? w _ hx396_2)).trans hx396_2
         replace hx396_3 := (HB.out.cell (World.block_lt_of_cell? w _ hx396_3)).trans hx396_3
         replace hx396_4 := (HB.out.cell (World.block_lt_of_cell? w _ hx396_4)).trans hx396_4
         replace hx396_5 := (HB.out.cell (World.block_lt_of_cell? w _ hx396_5)).trans hx396_5
         replace hx396_6 := (HB.out.cell (World.block_lt_of_cell? w _ hx396_6)).trans hx396_6
         replace p396 := eq_true p396
         replace q396 := eq_true q396
         go_wp2_with (first | ((with_reducible refine gate_dst (N := 5) rfl ?_); refine box_event ?hg (N := 5) ?hd (cs := #[.int .i64 0, .int .i64 0, .int .i64 0, .int .i64 0, .int .i64 0, .int .i64 0, .bool false]) (t := 24) ?hr ?_; (case hd => rfl); (case hg => rfl); (case hr => first | (go_simp; done) | (go_simp; rfl)); intro gb397 hg w12 hbox hb; have n0_ := Aside0.mk (Kd.R_below (by (with_reducible repeat (first | apply Kd.R_alloc | apply Kd.R_drewN | apply Kd.R_drew)); exact HO_3.out) hb); have n1_ := Aside0.mk (below_step (by repeat (first | (with_reducible first | exact HB.out | apply below_alloc | apply pw_below_drewN | apply below_drew1) | exact HB.out)) hb); have n2_ := Aside0.mk (hbox); have n3_ := Aside0.mk ((by rw [hg]; exact (below_size (by repeat (first | (with_reducible first | exact HB.out | apply below_alloc | apply pw_below_drewN | apply below_drew1) | exact HB.out))) : w.heap.size ≤ gb397)); have n4_ := Aside0.mk ((by rw [hg]; exact (below_size (by repeat (first | (with_reducible first | exact HB.out | apply below_alloc | apply pw_below_drewN | apply below_drew1) | exact HB.out))) : w.heap.size ≤ gb397)); clear HO_3; clear HB; have HO_3 := n0_; have HB := n1_; have BK397 := n2_; have GW397 := n3_; have GE397 := n4_; clear n0_ n1_ n2_ n3_ n4_; clear hb hbox hg; have hcz13_0 : w12.cell? ⟨gb397, 0, none⟩ = some (.int .i64 0) := (blk_cell BK397.out 0).trans rfl; have hcz13_1 : w12.cell? ⟨gb397, 1, none⟩ = some (.int .i64 0) := (blk_cell BK397.out 1).trans rfl; have hcz13_2 : w12.cell? ⟨gb397, 2, none⟩ = some (.int .i64 0) := (blk_cell BK397.out 2).trans rfl; have hcz13_3 : w12.cell? ⟨gb397, 3, none⟩ = some (.int .i64 0) := (blk_cell BK397.out 3).trans rfl; have hcz13_4 : w12.cell? ⟨gb397, 4, none⟩ = some (.int .i64 0) := (blk_cell BK397.out 4).trans rfl; have hcz13_5 : w12.cell? ⟨gb397, 5, none⟩ = some (.int .i64 0) := (blk_cell BK397.out 5).trans rfl; have hcz13_6 : w12.cell? ⟨gb397, 6, none⟩ = some (.bool false) := (blk_cell BK397.out 6).trans rfl; have hfz13_0 := blk_frozen BK397.out 0; have hfz13_1 := blk_frozen BK397.out 1; have hfz13_2 := blk_frozen BK397.out 2; have hfz13_3 := blk_frozen BK397.out 3; have hfz13_4 := blk_frozen BK397.out 4; have hfz13_5 := blk_frozen BK397.out 5; have hfz13_6 := blk_frozen BK397.out 6) | ((with_reducible refine gate_callee (f := 20) rfl ?_); refine goesL_ (some 17) rfl rfl Try.func20 (by kernel_rfl) rfl #[.agg #[.int .i64 ((rd_T24 l0 x12_1).f0), .int .i64 ((rd_T24 l0 x12_1).f1), .int .i64 ((rd_T24 l0 x12_1).f2), .int .i64 ((rd_T24 l0 x12_1).f3), .int .i64 ((rd_T24 l0 x12_1).f4), .int .i64 ((rd_T24 l0 x12_1).f5), .bool ((rd_T24 l0 x12_1).f6)]] rfl (by (try simp only [mA, mC, mN]); first | done | rfl | (simp only [List.length_drop, List.length_take]; rfl)) ?_; (with_reducible refine (impl_RouteRight.calls k1 ((rd_T24 l0 x12_1).f0) ((rd_T24 l0 x12_1).f1) ((rd_T24 l0 x12_1).f2) ((rd_T24 l0 x12_1).f3) ((rd_T24 l0 x12_1).f4) ((rd_T24 l0 x12_1).f5) ((rd_T24 l0 x12_1).f6) true _ A8.out).mono ?_); rintro e w14 ⟨rfl, hb⟩; refine ⟨_, rfl, ?_⟩; have n0_ := Aside0.mk (Kd.R_below (by (with_reducible repeat (first | apply Kd.R_alloc | apply Kd.R_drewN | apply Kd.R_drew)); exact (Kd.R_mono (Kd.R_far (p := ⟨gb397, 6, none⟩) (Kd.R_far (p := ⟨gb397, 5, none⟩) (Kd.R_far (p := ⟨gb397, 4, none⟩) (Kd.R_far (p := ⟨gb397, 3, none⟩) (Kd.R_far (p := ⟨gb397, 2, none⟩) (Kd.R_far (p := ⟨gb397, 1, none⟩) (Kd.R_far (p := ⟨gb397, 0, none⟩) (Kd.R_types HO_3.out BK397.out (by decide)) (fun _ hk => hk.2) (.int .i64 ((rd_T24 l0 x12_1).f0))) (fun _ hk => hk.2) (.int .i64 ((rd_T24 l0 x12_1).f1))) (fun _ hk => hk.2) (.int .i64 ((rd_T24 l0 x12_1).f2))) (fun _ hk => hk.2) (.int .i64 ((rd_T24 l0 x12_1).f3))) (fun _ hk => hk.2) (.int .i64 ((rd_T24 l0 x12_1).f4))) (fun _ hk => hk.2) (.int .i64 ((rd_T24 l0 x12_1).f5))) (fun _ hk => hk.2) (.bool ((rd_T24 l0 x12_1).f6))) (fun _ h_ => h_.1))) hb); have n1_ := Aside0.mk (blk_below (g := gb397) (o := .cells #[.int .i64 ((rd_T24 l0 x12_1).f0), .int .i64 ((rd_T24 l0 x12_1).f1), .int .i64 ((rd_T24 l0 x12_1).f2), .int .i64 ((rd_T24 l0 x12_1).f3), .int .i64 ((rd_T24 l0 x12_1).f4), .int .i64 ((rd_T24 l0 x12_1).f5), .bool ((rd_T24 l0 x12_1).f6)] 24 (0, 0)) (by (with_reducible repeat (first | refine blk_drewN ?_ _ | refine blk_drew ?_ | refine blk_alloc ?_ _)); refine blk_put (cs := #[.int .i64 ((rd_T24 l0 x12_1).f0), .int .i64 ((rd_T24 l0 x12_1).f1), .int .i64 ((rd_T24 l0 x12_1).f2), .int .i64 ((rd_T24 l0 x12_1).f3), .int .i64 ((rd_T24 l0 x12_1).f4), .int .i64 ((rd_T24 l0 x12_1).f5), .bool false]) ?_ 6 _ (by first | rfl | (subst_vars; rfl)); (with_reducible repeat (first | refine blk_drewN ?_ _ | refine blk_drew ?_ | refine blk_alloc ?_ _)); refine blk_put (cs := #[.int .i64 ((rd_T24 l0 x12_1).f0), .int .i64 ((rd_T24 l0 x12_1).f1), .int .i64 ((rd_T24 l0 x12_1).f2), .int .i64 ((rd_T24 l0 x12_1).f3), .int .i64 ((rd_T24 l0 x12_1).f4), .int .i64 0, .bool false]) ?_ 5 _ (by first | rfl | (subst_vars; rfl)); (with_reducible repeat (first | refine blk_drewN ?_ _ | refine blk_drew ?_ | refine blk_alloc ?_ _)); refine blk_put (cs := #[.int .i64 ((rd_T24 l0 x12_1).f0), .int .i64 ((rd_T24 l0 x12_1).f1), .int .i64 ((rd_T24 l0 x12_1).f2), .int .i64 ((rd_T24 l0 x12_1).f3), .int .i64 0, .int .i64 0, .bool false]) ?_ 4 _ (by first | rfl | (subst_vars; rfl)); (with_reducible repeat (first | refine blk_drewN ?_ _ | refine blk_drew ?_ | refine blk_alloc ?_ _)); refine blk_put (cs := #[.int .i64 ((rd_T24 l0 x12_1).f0), .int .i64 ((rd_T24 l0 x12_1).f1), .int .i64 ((rd_T24 l0 x12_1).f2), .int .i64 0, .int .i64 0, .int .i64 0, .bool false]) ?_ 3 _ (by first | rfl | (subst_vars; rfl)); (with_reducible repeat (first | refine blk_drewN ?_ _ | refine blk_drew ?_ | refine blk_alloc ?_ _)); refine blk_put (cs := #[.int .i64 ((rd_T24 l0 x12_1).f0), .int .i64 ((rd_T24 l0 x12_1).f1), .int .i64 0, .int .i64 0, .int .i64 0, .int .i64 0, .bool false]) ?_ 2 _ (by first | rfl | (subst_vars; rfl)); (with_reducible repeat (first | refine blk_drewN ?_ _ | refine blk_drew ?_ | refine blk_alloc ?_ _)); refine blk_put (cs := #[.int .i64 ((rd_T24 l0 x12_1).f0), .int .i64 0, .int .i64 0, .int .i64 0, .int .i64 0, .int .i64 0, .bool false]) ?_ 1 _ (by first | rfl | (subst_vars; rfl)); (with_reducible repeat (first | refine blk_drewN ?_ _ | refine blk_drew ?_ | refine blk_alloc ?_ _)); refine blk_put (cs := #[.int .i64 0, .int .i64 0, .int .i64 0, .int .i64 0, .int .i64 0, .int .i64 0, .bool false]) ?_ 0 _ (by first | rfl | (subst_vars; rfl)); (with_reducible repeat (first | refine blk_drewN ?_ _ | refine blk_drew ?_ | refine blk_alloc ?_ _)); exact BK397.out) hb); have n2_ := Aside0.mk (below_step (by repeat (first | (with_reducible first | exact HB.out | apply below_alloc | apply pw_below_drewN | apply below_drew1 | refine below_set ?_ GE397.out) | exact HB.out)) hb); clear HO_3; clear BK397; clear HB; have HO_3 := n0_; have BK397 := n1_; have HB := n2_; clear n0_ n1_ n2_; (try clear hb); (try clear hb2); (try clear hk); (try clear hi); have hcz15_0 : w14.cell? ⟨gb397, 0, none⟩ = some (.int .i64 ((rd_T24 l0 x12_1).f0)) := (blk_cell BK397.out 0).trans rfl; have hcz15_1 : w14.cell? ⟨gb397, 1, none⟩ = some (.int .i64 ((rd_T24 l0 x12_1).f1)) := (blk_cell BK397.out 1).trans rfl; have hcz15_2 : w14.cell? ⟨gb397, 2, none⟩ = some (.int .i64 ((rd_T24 l0 x12_1).f2)) := (blk_cell BK397.out 2).trans rfl; have hcz15_3 : w14.cell? ⟨gb397, 3, none⟩ = some (.int .i64 ((rd_T24 l0 x12_1).f3)) := (blk_cell BK397.out 3).trans rfl; have hcz15_4 : w14.cell? ⟨gb397, 4, none⟩ = some (.int .i64 ((rd_T24 l0 x12_1).f4)) := (blk_cell BK397.out 4).trans rfl; have hcz15_5 : w14.cell? ⟨gb397, 5, none⟩ = some (.int .i64 ((rd_T24 l0 x12_1).f5)) := (blk_cell BK397.out 5).trans rfl; have hcz15_6 : w14.cell? ⟨gb397, 6, none⟩ = some (.bool ((rd_T24 l0 x12_1).f6)) := (blk_cell BK397.out 6).trans rfl; have hfz15_0 := blk_frozen BK397.out 0; have hfz15_1 := blk_frozen BK397.out 1; have hfz15_2 := blk_frozen BK397.out 2; have hfz15_3 := blk_frozen BK397.out 3; have hfz15_4 := blk_frozen BK397.out 4; have hfz15_5 := blk_frozen BK397.out 5; have hfz15_6 := blk_frozen BK397.out 6) | ((with_reducible refine gate_callee (f := 23) rfl ?_); refine goesL_ (some 22) rfl rfl Try.func23 (by kernel_rfl) rfl #[.agg #[.int .i64 1, .int .i64 ((rd_T24 l0 x12_1).f0), .int .i64 ((rd_T24 l0 x12_1).f1), .int .i64 ((rd_T24 l0 x12_1).f2), .int .i64 ((rd_T24 l0 x12_1).f3), .int .i64 ((rd_T24 l0 x12_1).f4), .int .i64 ((rd_T24 l0 x12_1).f5), .bool ((rd_T24 l0 x12_1).f6)]] rfl (by (try simp only [mA, mC, mN]); first | done | rfl | (simp only [List.length_drop, List.length_take]; rfl)) ?_; (with_reducible refine (impl_NoteBytes.calls k1 1 ((rd_T24 l0 x12_1).f0) ((rd_T24 l0 x12_1).f1) ((rd_T24 l0 x12_1).f2) ((rd_T24 l0 x12_1).f3) ((rd_T24 l0 x12_1).f4) ((rd_T24 l0 x12_1).f5) ((rd_T24 l0 x12_1).f6) t399 _ A10.out).mono ?_); rintro e w16 ⟨rfl, hb⟩; refine ⟨_, rfl, ?_⟩; have n0_ := Aside0.mk (Kd.R_below (by (with_reducible repeat (first | apply Kd.R_alloc | apply Kd.R_drewN | apply Kd.R_drew)); exact HO_3.out) hb); have n1_ := Aside0.mk (blk_below (g := gb397) (o := .cells #[.int .i64 ((rd_T24 l0 x12_1).f0), .int .i64 ((rd_T24 l0 x12_1).f1), .int .i64 ((rd_T24 l0 x12_1).f2), .int .i64 ((rd_T24 l0 x12_1).f3), .int .i64 ((rd_T24 l0 x12_1).f4), .int .i64 ((rd_T24 l0 x12_1).f5), .bool ((rd_T24 l0 x12_1).f6)] 24 (0, 0)) (by (with_reducible repeat (first | refine blk_drewN ?_ _ | refine blk_drew ?_ | refine blk_alloc ?_ _)); exact BK397.out) hb); have n2_ := Aside0.mk (below_step (by repeat (first | (with_reducible first | exact HB.out | apply below_alloc | apply pw_below_drewN | apply below_drew1 | refine below_set ?_ GE397.out) | exact HB.out)) hb); clear HO_3; clear BK397; clear HB; have HO_3 := n0_; have BK397 := n1_; have HB := n2_; clear n0_ n1_ n2_; (try clear hb); (try clear hb2); (try clear hk); (try clear hi)) | ((with_reducible refine gate_builtin (b := .append) (xs := #[.tmp 19, .tmp 23]) rfl ?_); at_builtin; refine Kd.R_append Kd.string (w0 := w) w.heap.size rfl (.tmp 19) (.tmp 23) 49 9 (.string ⟨#[]⟩) 16 rfl Try.underlying49 info9 rfl (by decide) (by omega) u3 x3_1 t399 [.string t399] (fun _ => True) (fun _ => False) rfl rfl ?aP (fun _ hk => hk.elim) ?aF ?aO ?aB ?aS ?aL ?_; (case aP => exact rfl); (case aB => exact (by repeat (first | (with_reducible first | exact HB.out | apply below_alloc | apply pw_below_drewN | apply below_drew1 | refine below_set ?_ GE397.out) | exact HB.out))); (case aF => exact (fun _ _ => trivial)); (case aO => exact (by (with_reducible repeat (first | apply Kd.R_alloc | apply Kd.R_drewN | apply Kd.R_drew)); exact HO_3.out)); (case aS => exact (below_size (by repeat (first | (with_reducible first | exact HB.out | apply below_alloc | apply pw_below_drewN | apply below_drew1 | refine below_set ?_ GE397.out) | exact HB.out)))); (case aL => have := LMc11.out; omega); intro v401 w17 ho hb hg hat; rw [← Ny400.out] at ho; have n0_ := Aside0.mk (blk_grown (g := gb397) (o := .cells #[.int .i64 ((rd_T24 l0 x12_1).f0), .int .i64 ((rd_T24 l0 x12_1).f1), .int .i64 ((rd_T24 l0 x12_1).f2), .int .i64 ((rd_T24 l0 x12_1).f3), .int .i64 ((rd_T24 l0 x12_1).f4), .int .i64 ((rd_T24 l0 x12_1).f5), .bool ((rd_T24 l0 x12_1).f6)] 24 (0, 0)) (by (with_reducible repeat (first | refine blk_drewN ?_ _ | refine blk_drew ?_ | refine blk_alloc ?_ _)); exact BK397.out) hg (Kd.R_ne HO_3.out BK397.out (by decide))); have n1_ := Aside0.mk (hb); have n2_ := Aside0.mk (ho); clear BK397; clear HB; clear HO_3; have BK397 := n0_; have HB := n1_; have HO402 := n2_; clear n0_ n1_ n2_; clear ho hb hg hat))
         (try (unfold Instr.field; go_simp; unfold asAgg; go_simp; go_wp2))
         go_roundg k1
         case measure => have := HK1.out; omega
         case rel => exact ⟨(y400), (wrap64 (x12_1 + 1)), (by first | rfl | (simp; done) | (simp [*]; done)), H', ⟨by have := HK1.out; omega⟩, ⟨by (with_reducible repeat (first | apply Kd.R_alloc | apply Kd.R_drewN | apply Kd.R_drew)); exact HO402.out⟩, ⟨by repeat (first | (with_reducible first | exact HB.out | apply below_alloc | apply pw_below_drewN | apply below_drew1 | refine below_set ?_ GE397.out) | exact HB.out)⟩⟩
        ·rw [if_neg c11] at H
         exact absurd H (by simp)
       ·replace c9 := Bool.eq_false_iff.mpr c9
        subst c9
        have H1 : (some ([] : List ByteArray)) = some r := by rw [if_neg (show ¬ (false = true) by decide)] at H; exact H
        clear H
        have H := H1
        clear H1
        obtain rfl := Option.some.inj H
        have p396 : 0 ≤ (x12_1 : Int) := of_decide_eq_true (by first | (with_reducible assumption) | assumption)
        have q396 : x12_1 < (l0.length : Int) := of_decide_eq_true (by first | (with_reducible assumption) | assumption)
        obtain ⟨ad396, e396, hx396_0, hx396_1, hx396_2, hx396_3, hx396_4, hx396_5, hx396_6⟩ := at_T24 HR0.out x12_1 p396 q396
        cases e396
        replace hx396_0 := (HB.out.cell (World.block_lt_of_cell? w _ hx396_0)).trans hx396_0
        replace hx396_1 := (HB.out.cell (World.block_lt_of_cell? w _ hx396_1)).trans hx396_1
        replace hx396_2 := (HB.out.cell (World.block_lt_of_cell? w _ hx396_2)).trans hx396_2
        replace hx396_3 := (HB.out.cell (World.block_lt_of_cell? w _ hx396_3)).trans hx396_3
        replace hx396_4 := (HB.out.cell (World.block_lt_of_cell? w _ hx396_4)).trans hx396_4
        replace hx396_5 := (HB.out.cell (World.block_lt_of_cell? w _ hx396_5)).trans hx396_5
        replace hx396_6 := (HB.out.cell (World.block_lt_of_cell? w _ hx396_6)).trans hx396_6
        replace p396 := eq_true p396
        replace q396 := eq_true q396
        go_wp2_with (first | ((with_reducible refine gate_dst (N := 5) rfl ?_); refine box_event ?hg (N := 5) ?hd (cs := #[.int .i64 0, .int .i64 0, .int .i64 0, .int .i64 0, .int .i64 0, .int .i64 0, .bool false]) (t := 24) ?hr ?_; (case hd => rfl); (case hg => rfl); (case hr => first | (go_simp; done) | (go_simp; rfl)); intro gb397 hg w18 hbox hb; have n0_ := Aside0.mk (Kd.R_below (by (with_reducible repeat (first | apply Kd.R_alloc | apply Kd.R_drewN | apply Kd.R_drew)); exact HO_3.out) hb); have n1_ := Aside0.mk (below_step (by repeat (first | (with_reducible first | exact HB.out | apply below_alloc | apply pw_below_drewN | apply below_drew1) | exact HB.out)) hb); have n2_ := Aside0.mk (hbox); have n3_ := Aside0.mk ((by rw [hg]; exact (below_size (by repeat (first | (with_reducible first | exact HB.out | apply below_alloc | apply pw_below_drewN | apply below_drew1) | exact HB.out))) : w.heap.size ≤ gb397)); have n4_ := Aside0.mk ((by rw [hg]; exact (below_size (by repeat (first | (with_reducible first | exact HB.out | apply below_alloc | apply pw_below_drewN | apply below_drew1) | exact HB.out))) : w.heap.size ≤ gb397)); clear HO_3; clear HB; have HO_3 := n0_; have HB := n1_; have BK397 := n2_; have GW397 := n3_; have GE397 := n4_; clear n0_ n1_ n2_ n3_ n4_; clear hb hbox hg; have hcz19_0 : w18.cell? ⟨gb397, 0, none⟩ = some (.int .i64 0) := (blk_cell BK397.out 0).trans rfl; have hcz19_1 : w18.cell? ⟨gb397, 1, none⟩ = some (.int .i64 0) := (blk_cell BK397.out 1).trans rfl; have hcz19_2 : w18.cell? ⟨gb397, 2, none⟩ = some (.int .i64 0) := (blk_cell BK397.out 2).trans rfl; have hcz19_3 : w18.cell? ⟨gb397, 3, none⟩ = some (.int .i64 0) := (blk_cell BK397.out 3).trans rfl; have hcz19_4 : w18.cell? ⟨gb397, 4, none⟩ = some (.int .i64 0) := (blk_cell BK397.out 4).trans rfl; have hcz19_5 : w18.cell? ⟨gb397, 5, none⟩ = some (.int .i64 0) := (blk_cell BK397.out 5).trans rfl; have hcz19_6 : w18.cell? ⟨gb397, 6, none⟩ = some (.bool false) := (blk_cell BK397.out 6).trans rfl; have hfz19_0 := blk_frozen BK397.out 0; have hfz19_1 := blk_frozen BK397.out 1; have hfz19_2 := blk_frozen BK397.out 2; have hfz19_3 := blk_frozen BK397.out 3; have hfz19_4 := blk_frozen BK397.out 4; have hfz19_5 := blk_frozen BK397.out 5; have hfz19_6 := blk_frozen BK397.out 6) | ((with_reducible refine gate_callee (f := 20) rfl ?_); refine goesL_ (some 17) rfl rfl Try.func20 (by kernel_rfl) rfl #[.agg #[.int .i64 ((rd_T24 l0 x12_1).f0), .int .i64 ((rd_T24 l0 x12_1).f1), .int .i64 ((rd_T24 l0 x12_1).f2), .int .i64 ((rd_T24 l0 x12_1).f3), .int .i64 ((rd_T24 l0 x12_1).f4), .int .i64 ((rd_T24 l0 x12_1).f5), .bool ((rd_T24 l0 x12_1).f6)]] rfl (by (try simp only [mA, mC, mN]); first | done | rfl | (simp only [List.length_drop, List.length_take]; rfl)) ?_; (with_reducible refine (impl_RouteRight.calls k1 ((rd_T24 l0 x12_1).f0) ((rd_T24 l0 x12_1).f1) ((rd_T24 l0 x12_1).f2) ((rd_T24 l0 x12_1).f3) ((rd_T24 l0 x12_1).f4) ((rd_T24 l0 x12_1).f5) ((rd_T24 l0 x12_1).f6) false _ A8.out).mono ?_); rintro e w20 ⟨rfl, hb⟩; refine ⟨_, rfl, ?_⟩; have n0_ := Aside0.mk (Kd.R_below (by (with_reducible repeat (first | apply Kd.R_alloc | apply Kd.R_drewN | apply Kd.R_drew)); exact (Kd.R_mono (Kd.R_far (p := ⟨gb397, 6, none⟩) (Kd.R_far (p := ⟨gb397, 5, none⟩) (Kd.R_far (p := ⟨gb397, 4, none⟩) (Kd.R_far (p := ⟨gb397, 3, none⟩) (Kd.R_far (p := ⟨gb397, 2, none⟩) (Kd.R_far (p := ⟨gb397, 1, none⟩) (Kd.R_far (p := ⟨gb397, 0, none⟩) (Kd.R_types HO_3.out BK397.out (by decide)) (fun _ hk => hk.2) (.int .i64 ((rd_T24 l0 x12_1).f0))) (fun _ hk => hk.2) (.int .i64 ((rd_T24 l0 x12_1).f1))) (fun _ hk => hk.2) (.int .i64 ((rd_T24 l0 x12_1).f2))) (fun _ hk => hk.2) (.int .i64 ((rd_T24 l0 x12_1).f3))) (fun _ hk => hk.2) (.int .i64 ((rd_T24 l0 x12_1).f4))) (fun _ hk => hk.2) (.int .i64 ((rd_T24 l0 x12_1).f5))) (fun _ hk => hk.2) (.bool ((rd_T24 l0 x12_1).f6))) (fun _ h_ => h_.1))) hb); have n1_ := Aside0.mk (blk_below (g := gb397) (o := .cells #[.int .i64 ((rd_T24 l0 x12_1).f0), .int .i64 ((rd_T24 l0 x12_1).f1), .int .i64 ((rd_T24 l0 x12_1).f2), .int .i64 ((rd_T24 l0 x12_1).f3), .int .i64 ((rd_T24 l0 x12_1).f4), .int .i64 ((rd_T24 l0 x12_1).f5), .bool ((rd_T24 l0 x12_1).f6)] 24 (0, 0)) (by (with_reducible repeat (first | refine blk_drewN ?_ _ | refine blk_drew ?_ | refine blk_alloc ?_ _)); refine blk_put (cs := #[.int .i64 ((rd_T24 l0 x12_1).f0), .int .i64 ((rd_T24 l0 x12_1).f1), .int .i64 ((rd_T24 l0 x12_1).f2), .int .i64 ((rd_T24 l0 x12_1).f3), .int .i64 ((rd_T24 l0 x12_1).f4), .int .i64 ((rd_T24 l0 x12_1).f5), .bool false]) ?_ 6 _ (by first | rfl | (subst_vars; rfl)); (with_reducible repeat (first | refine blk_drewN ?_ _ | refine blk_drew ?_ | refine blk_alloc ?_ _)); refine blk_put (cs := #[.int .i64 ((rd_T24 l0 x12_1).f0), .int .i64 ((rd_T24 l0 x12_1).f1), .int .i64 ((rd_T24 l0 x12_1).f2), .int .i64 ((rd_T24 l0 x12_1).f3), .int .i64 ((rd_T24 l0 x12_1).f4), .int .i64 0, .bool false]) ?_ 5 _ (by first | rfl | (subst_vars; rfl)); (with_reducible repeat (first | refine blk_drewN ?_ _ | refine blk_drew ?_ | refine blk_alloc ?_ _)); refine blk_put (cs := #[.int .i64 ((rd_T24 l0 x12_1).f0), .int .i64 ((rd_T24 l0 x12_1).f1), .int .i64 ((rd_T24 l0 x12_1).f2), .int .i64 ((rd_T24 l0 x12_1).f3), .int .i64 0, .int .i64 0, .bool false]) ?_ 4 _ (by first | rfl | (subst_vars; rfl)); (with_reducible repeat (first | refine blk_drewN ?_ _ | refine blk_drew ?_ | refine blk_alloc ?_ _)); refine blk_put (cs := #[.int .i64 ((rd_T24 l0 x12_1).f0), .int .i64 ((rd_T24 l0 x12_1).f1), .int .i64 ((rd_T24 l0 x12_1).f2), .int .i64 0, .int .i64 0, .int .i64 0, .bool false]) ?_ 3 _ (by first | rfl | (subst_vars; rfl)); (with_reducible repeat (first | refine blk_drewN ?_ _ | refine blk_drew ?_ | refine blk_alloc ?_ _)); refine blk_put (cs := #[.int .i64 ((rd_T24 l0 x12_1).f0), .int .i64 ((rd_T24 l0 x12_1).f1), .int .i64 0, .int .i64 0, .int .i64 0, .int .i64 0, .bool false]) ?_ 2 _ (by first | rfl | (subst_vars; rfl)); (with_reducible repeat (first | refine blk_drewN ?_ _ | refine blk_drew ?_ | refine blk_alloc ?_ _)); refine blk_put (cs := #[.int .i64 ((rd_T24 l0 x12_1).f0), .int .i64 0, .int .i64 0, .int .i64 0, .int .i64 0, .int .i64 0, .bool false]) ?_ 1 _ (by first | rfl | (subst_vars; rfl)); (with_reducible repeat (first | refine blk_drewN ?_ _ | refine blk_drew ?_ | refine blk_alloc ?_ _)); refine blk_put (cs := #[.int .i64 0, .int .i64 0, .int .i64 0, .int .i64 0, .int .i64 0, .int .i64 0, .bool false]) ?_ 0 _ (by first | rfl | (subst_vars; rfl)); (with_reducible repeat (first | refine blk_drewN ?_ _ | refine blk_drew ?_ | refine blk_alloc ?_ _)); exact BK397.out) hb); have n2_ := Aside0.mk (below_step (by repeat (first | (with_reducible first | exact HB.out | apply below_alloc | apply pw_below_drewN | apply below_drew1 | refine below_set ?_ GE397.out) | exact HB.out)) hb); clear HO_3; clear BK397; clear HB; have HO_3 := n0_; have BK397 := n1_; have HB := n2_; clear n0_ n1_ n2_; (try clear hb); (try clear hb2); (try clear hk); (try clear hi)))
        (try (unfold Instr.field; go_simp; unfold asAgg; go_simp; go_wp2))
        go_ret
        exact ⟨_, by first | rfl | (simp [errW_none, errW_some] <;> rfl) | (simp [*, errW_none, errW_some] <;> rfl), by first | exact Kd.R_nil _ _ _ _ _ | exact Kd.N_nil _ _ _ _ _ | exact Kd.V_nil _ _ _ _ _ | exact Kd.Q_nil _ _ _ _ _ | exact Kd.S_nil _ _ _ _ _, by repeat (first | (with_reducible first | exact HB.out | apply below_alloc | apply pw_below_drewN | apply below_drew1 | refine below_set ?_ GE397.out) | exact HB.out)⟩
      ·rw [if_neg c7] at H
       exact absurd H (by simp)
     ·rw [if_neg c6] at H
      exact absurd H (by simp)
    ·rw [if_neg c5] at H
     have c5b0 : decide (x12_1 < (l0.length : Int)) = false := decide_eq_false c5
     clear c5
     replace H := Option.bind_eq_some_iff.mp H
     obtain ⟨t392, A210, H⟩ := H
     try dsimp only at H
     have A21 := Aside0.mk A210
     clear A210
     by_cases c22 : x3_1.length < 8796093022208
     ·rw [if_pos c22] at H
      have LMc22 := Aside0.mk c22
      clear c22
      obtain ⟨y393, hy393⟩ : ∃ y_ : List ByteArray, y_ = (x3_1 ++ [t392]) := ⟨_, rfl⟩
      replace H : (some y393) = some r := by first | (rw [hy393]; with_reducible exact H) | (have H2_ := (Option.bind_some _ _).symm.trans H; rw [hy393]; with_reducible exact H2_) | (have H2_ := (Option.bind_some _ _).symm.trans H; with_reducible exact H2_) | with_reducible exact H | (rw [hy393]; exact H) | exact H
      have Ny393 := Aside0.mk hy393
      clear hy393
      obtain rfl := Option.some.inj H
      go_wp2_with (first | ((with_reducible refine gate_callee (f := 23) rfl ?_); refine goesL_ (some 28) rfl rfl Try.func23 (by kernel_rfl) rfl #[.agg #[.int .i64 3, .int .i64 0, .int .i64 0, .int .i64 0, .int .i64 0, .int .i64 0, .int .i64 0, .bool false]] rfl (by (try simp only [mA, mC, mN]); first | done | rfl | (simp only [List.length_drop, List.length_take]; rfl)) ?_; (with_reducible refine (impl_NoteBytes.calls k1 3 0 0 0 0 0 0 false t392 _ A21.out).mono ?_); rintro e w23 ⟨rfl, hb⟩; refine ⟨_, rfl, ?_⟩; have n0_ := Aside0.mk (Kd.R_below (by (with_reducible repeat (first | apply Kd.R_alloc | apply Kd.R_drewN | apply Kd.R_drew)); exact HO_3.out) hb); have n1_ := Aside0.mk (below_step (by repeat (first | (with_reducible first | exact HB.out | apply below_alloc | apply pw_below_drewN | apply below_drew1) | exact HB.out)) hb); clear HO_3; clear HB; have HO_3 := n0_; have HB := n1_; clear n0_ n1_; (try clear hb); (try clear hb2); (try clear hk); (try clear hi)) | ((with_reducible refine gate_builtin (b := .append) (xs := #[.tmp 26, .tmp 29]) rfl ?_); at_builtin; refine Kd.R_append Kd.string (w0 := w) w.heap.size rfl (.tmp 26) (.tmp 29) 49 9 (.string ⟨#[]⟩) 16 rfl Try.underlying49 info9 rfl (by decide) (by omega) u3 x3_1 t392 [.string t392] (fun _ => True) (fun _ => False) rfl rfl ?aP (fun _ hk => hk.elim) ?aF ?aO ?aB ?aS ?aL ?_; (case aP => exact rfl); (case aB => exact (by repeat (first | (with_reducible first | exact HB.out | apply below_alloc | apply pw_below_drewN | apply below_drew1) | exact HB.out))); (case aF => exact (fun _ _ => trivial)); (case aO => exact (by (with_reducible repeat (first | apply Kd.R_alloc | apply Kd.R_drewN | apply Kd.R_drew)); exact HO_3.out)); (case aS => exact (below_size (by repeat (first | (with_reducible first | exact HB.out | apply below_alloc | apply pw_below_drewN | apply below_drew1) | exact HB.out)))); (case aL => have := LMc22.out; omega); intro v394 w24 ho hb hg hat; rw [← Ny393.out] at ho; have n0_ := Aside0.mk (hb); have n1_ := Aside0.mk (ho); clear HB; clear HO_3; have HB := n0_; have HO395 := n1_; clear n0_ n1_; clear ho hb hg hat))
      (try (unfold Instr.field; go_simp; unfold asAgg; go_simp; go_wp2))
      go_ret
      exact ⟨_, by first | rfl | (simp [errW_none, errW_some] <;> rfl) | (simp [*, errW_none, errW_some] <;> rfl), by (with_reducible repeat (first | apply Kd.R_alloc | apply Kd.R_drewN | apply Kd.R_drew)); exact HO395.out, by repeat (first | (with_reducible first | exact HB.out | apply below_alloc | apply pw_below_drewN | apply below_drew1) | exact HB.out)⟩
     ·rw [if_neg c22] at H
      exact absurd H (by simp)
def spec_RouteBytes.f (k : Nat) (a0_0 : Int) (a0_1 : Int) (a0_2 : Int) (a0_3 : Int) (a0_4 : Int) (a0_5 : Int) (a0_6 : Bool) : Option (ByteArray) := (spec_RouteRight.f k a0_0 a0_1 a0_2 a0_3 a0_4 a0_5 a0_6).bind fun t404 => (if t404 = true then ((spec_l03Bytes.f k a0_0 a0_1 a0_2 a0_3 a0_4 a0_5 a0_6).bind fun t405 => (some t405)) else (some (⟨#[]⟩ : ByteArray)))
set_option maxHeartbeats 8000000 in
set_option maxRecDepth 100000 in
theorem spec_RouteBytes.calls (k : Nat) (a0_0 : Int) (a0_1 : Int) (a0_2 : Int) (a0_3 : Int) (a0_4 : Int) (a0_5 : Int) (a0_6 : Bool) (r : ByteArray) (w : World) (h : spec_RouteBytes.f k a0_0 a0_1 a0_2 a0_3 a0_4 a0_5 a0_6 = some r) :
  Calls Try.prog 14 #[.agg #[.int .i64 a0_0, .int .i64 a0_1, .int .i64 a0_2, .int .i64 a0_3, .int .i64 a0_4, .int .i64 a0_5, .bool a0_6]] w fun e w' => e = .returned (.string r) ∧ Below w.heap.size w w' := by
 have hu24 := Try.underlying24
 have HB := Aside0.mk (Below.refl w.heap.size w)
 have H : ((spec_RouteRight.f k a0_0 a0_1 a0_2 a0_3 a0_4 a0_5 a0_6).bind fun t404 => (if t404 = true then ((spec_l03Bytes.f k a0_0 a0_1 a0_2 a0_3 a0_4 a0_5 a0_6).bind fun t405 => (some t405)) else (some (⟨#[]⟩ : ByteArray)))) = some r := h
 clear h
 replace H := Option.bind_eq_some_iff.mp H
 obtain ⟨t404, A20, H⟩ := H
 try dsimp only at H
 have A2 := Aside0.mk A20
 clear A20
 by_cases c3 : t404 = true
 ·subst c3
  have H1 : ((spec_l03Bytes.f k a0_0 a0_1 a0_2 a0_3 a0_4 a0_5 a0_6).bind fun t405 => (some t405)) = some r := by rw [if_pos rfl] at H; exact H
  clear H
  have H := H1
  clear H1
  replace H := Option.bind_eq_some_iff.mp H
  obtain ⟨t405, A40, H⟩ := H
  try dsimp only at H
  have A4 := Aside0.mk A40
  clear A40
  obtain rfl := Option.some.inj H
  go_enter Try.func14, Try.ntmps14
  go_wp2_with (first | ((with_reducible refine gate_dst (N := 1) rfl ?_); refine box_event ?hg (N := 1) ?hd (cs := #[.int .i64 a0_0, .int .i64 a0_1, .int .i64 a0_2, .int .i64 a0_3, .int .i64 a0_4, .int .i64 a0_5, .bool a0_6]) (t := 24) ?hr ?_; (case hd => rfl); (case hg => rfl); (case hr => first | (go_simp; done) | (go_simp; rfl)); intro gb403 hg w5 hbox hb; have n0_ := Aside0.mk (below_step (by repeat (first | (with_reducible first | exact HB.out | apply below_alloc | apply pw_below_drewN | apply below_drew1) | exact HB.out)) hb); have n1_ := Aside0.mk (hbox); have n2_ := Aside0.mk ((by rw [hg]; exact (below_size (by repeat (first | (with_reducible first | exact HB.out | apply below_alloc | apply pw_below_drewN | apply below_drew1) | exact HB.out))) : w.heap.size ≤ gb403)); have n3_ := Aside0.mk ((by rw [hg]; exact (below_size (by repeat (first | (with_reducible first | exact HB.out | apply below_alloc | apply pw_below_drewN | apply below_drew1) | exact HB.out))) : w.heap.size ≤ gb403)); clear HB; have HB := n0_; have BK403 := n1_; have GW403 := n2_; have GE403 := n3_; clear n0_ n1_ n2_ n3_; clear hb hbox hg; have hcz6_0 : w5.cell? ⟨gb403, 0, none⟩ = some (.int .i64 a0_0) := (blk_cell BK403.out 0).trans rfl; have hcz6_1 : w5.cell? ⟨gb403, 1, none⟩ = some (.int .i64 a0_1) := (blk_cell BK403.out 1).trans rfl; have hcz6_2 : w5.cell? ⟨gb403, 2, none⟩ = some (.int .i64 a0_2) := (blk_cell BK403.out 2).trans rfl; have hcz6_3 : w5.cell? ⟨gb403, 3, none⟩ = some (.int .i64 a0_3) := (blk_cell BK403.out 3).trans rfl; have hcz6_4 : w5.cell? ⟨gb403, 4, none⟩ = some (.int .i64 a0_4) := (blk_cell BK403.out 4).trans rfl; have hcz6_5 : w5.cell? ⟨gb403, 5, none⟩ = some (.int .i64 a0_5) := (blk_cell BK403.out 5).trans rfl; have hcz6_6 : w5.cell? ⟨gb403, 6, none⟩ = some (.bool a0_6) := (blk_cell BK403.out 6).trans rfl; have hfz6_0 := blk_frozen BK403.out 0; have hfz6_1 := blk_frozen BK403.out 1; have hfz6_2 := blk_frozen BK403.out 2; have hfz6_3 := blk_frozen BK403.out 3; have hfz6_4 := blk_frozen BK403.out 4; have hfz6_5 := blk_frozen BK403.out 5; have hfz6_6 := blk_frozen BK403.out 6) | ((with_reducible refine gate_callee (f := 21) rfl ?_); refine goesL_ (some 4) rfl rfl Try.func21 (by kernel_rfl) rfl #[.agg #[.int .i64 a0_0, .int .i64 a0_1, .int .i64 a0_2, .int .i64 a0_3, .int .i64 a0_4, .int .i64 a0_5, .bool a0_6]] rfl (by (try simp only [mA, mC, mN]); first | done | rfl | (simp only [List.length_drop, List.length_take]; rfl)) ?_; (with_reducible refine (spec_RouteRight.calls k a0_0 a0_1 a0_2 a0_3 a0_4 a0_5 a0_6 true _ A2.out).mono ?_); rintro e w7 ⟨rfl, hb⟩; refine ⟨_, rfl, ?_⟩; have n0_ := Aside0.mk (blk_below (g := gb403) (by (with_reducible repeat (first | refine blk_drewN ?_ _ | refine blk_drew ?_ | refine blk_alloc ?_ _)); exact BK403.out) hb); have n1_ := Aside0.mk (below_step (by repeat (first | (with_reducible first | exact HB.out | apply below_alloc | apply pw_below_drewN | apply below_drew1 | refine below_set ?_ GE403.out) | exact HB.out)) hb); clear BK403; clear HB; have BK403 := n0_; have HB := n1_; clear n0_ n1_; (try clear hb); (try clear hb2); (try clear hk); (try clear hi); have hcz8_0 : w7.cell? ⟨gb403, 0, none⟩ = some (.int .i64 a0_0) := (blk_cell BK403.out 0).trans rfl; have hcz8_1 : w7.cell? ⟨gb403, 1, none⟩ = some (.int .i64 a0_1) := (blk_cell BK403.out 1).trans rfl; have hcz8_2 : w7.cell? ⟨gb403, 2, none⟩ = some (.int .i64 a0_2) := (blk_cell BK403.out 2).trans rfl; have hcz8_3 : w7.cell? ⟨gb403, 3, none⟩ = some (.int .i64 a0_3) := (blk_cell BK403.out 3).trans rfl; have hcz8_4 : w7.cell? ⟨gb403, 4, none⟩ = some (.int .i64 a0_4) := (blk_cell BK403.out 4).trans rfl; have hcz8_5 : w7.cell? ⟨gb403, 5, none⟩ = some (.int .i64 a0_5) := (blk_cell BK403.out 5).trans rfl; have hcz8_6 : w7.cell? ⟨gb403, 6, none⟩ = some (.bool a0_6) := (blk_cell BK403.out 6).trans rfl; have hfz8_0 := blk_frozen BK403.out 0; have hfz8_1 := blk_frozen BK403.out 1; have hfz8_2 := blk_frozen BK403.out 2; have hfz8_3 := blk_frozen BK403.out 3; have hfz8_4 := blk_frozen BK403.out 4; have hfz8_5 := blk_frozen BK403.out 5; have hfz8_6 := blk_frozen BK403.out 6) | ((with_reducible refine gate_callee (f := 71) rfl ?_); refine goesL_ (some 7) rfl rfl Try.func71 (by kernel_rfl) rfl #[.agg #[.int .i64 a0_0, .int .i64 a0_1, .int .i64 a0_2, .int .i64 a0_3, .int .i64 a0_4, .int .i64 a0_5, .bool a0_6]] rfl (by (try simp only [mA, mC, mN]); first | done | rfl | (simp only [List.length_drop, List.length_take]; rfl)) ?_; (with_reducible refine (spec_l03Bytes.calls k a0_0 a0_1 a0_2 a0_3 a0_4 a0_5 a0_6 t405 _ A4.out).mono ?_); rintro e w9 ⟨rfl, hb⟩; refine ⟨_, rfl, ?_⟩; have n0_ := Aside0.mk (blk_below (g := gb403) (by (with_reducible repeat (first | refine blk_drewN ?_ _ | refine blk_drew ?_ | refine blk_alloc ?_ _)); exact BK403.out) hb); have n1_ := Aside0.mk (below_step (by repeat (first | (with_reducible first | exact HB.out | apply below_alloc | apply pw_below_drewN | apply below_drew1 | refine below_set ?_ GE403.out) | exact HB.out)) hb); clear BK403; clear HB; have BK403 := n0_; have HB := n1_; clear n0_ n1_; (try clear hb); (try clear hb2); (try clear hk); (try clear hi)))
  (try (unfold Instr.field; go_simp; unfold asAgg; go_simp; go_wp2))
  go_ret
  exact ⟨by first | rfl | (simp [errW_none, errW_some] <;> rfl) | (simp [*, errW_none, errW_some] <;> rfl), by repeat (first | (with_reducible first | exact HB.out | apply below_alloc | apply pw_below_drewN | apply below_drew1 | refine below_set ?_ GE403.out) | exact HB.out)⟩
 ·replace c3 := Bool.eq_false_iff.mpr c3
  subst c3
  have H1 : (some (⟨#[]⟩ : ByteArray)) = some r := by rw [if_neg (show ¬ (false = true) by decide)] at H; exact H
  clear H
  have H := H1
  clear H1
  obtain rfl := Option.some.inj H
  go_enter Try.func14, Try.ntmps14
  go_wp2_with (first | ((with_reducible refine gate_dst (N := 1) rfl ?_); refine box_event ?hg (N := 1) ?hd (cs := #[.int .i64 a0_0, .int .i64 a0_1, .int .i64 a0_2, .int .i64 a0_3, .int .i64 a0_4, .int .i64 a0_5, .bool a0_6]) (t := 24) ?hr ?_; (case hd => rfl); (case hg => rfl); (case hr => first | (go_simp; done) | (go_simp; rfl)); intro gb403 hg w10 hbox hb; have n0_ := Aside0.mk (below_step (by repeat (first | (with_reducible first | exact HB.out | apply below_alloc | apply pw_below_drewN | apply below_drew1) | exact HB.out)) hb); have n1_ := Aside0.mk (hbox); have n2_ := Aside0.mk ((by rw [hg]; exact (below_size (by repeat (first | (with_reducible first | exact HB.out | apply below_alloc | apply pw_below_drewN | apply below_drew1) | exact HB.out))) : w.heap.size ≤ gb403)); have n3_ := Aside0.mk ((by rw [hg]; exact (below_size (by repeat (first | (with_reducible first | exact HB.out | apply below_alloc | apply pw_below_drewN | apply below_drew1) | exact HB.out))) : w.heap.size ≤ gb403)); clear HB; have HB := n0_; have BK403 := n1_; have GW403 := n2_; have GE403 := n3_; clear n0_ n1_ n2_ n3_; clear hb hbox hg; have hcz11_0 : w10.cell? ⟨gb403, 0, none⟩ = some (.int .i64 a0_0) := (blk_cell BK403.out 0).trans rfl; have hcz11_1 : w10.cell? ⟨gb403, 1, none⟩ = some (.int .i64 a0_1) := (blk_cell BK403.out 1).trans rfl; have hcz11_2 : w10.cell? ⟨gb403, 2, none⟩ = some (.int .i64 a0_2) := (blk_cell BK403.out 2).trans rfl; have hcz11_3 : w10.cell? ⟨gb403, 3, none⟩ = some (.int .i64 a0_3) := (blk_cell BK403.out 3).trans rfl; have hcz11_4 : w10.cell? ⟨gb403, 4, none⟩ = some (.int .i64 a0_4) := (blk_cell BK403.out 4).trans rfl; have hcz11_5 : w10.cell? ⟨gb403, 5, none⟩ = some (.int .i64 a0_5) := (blk_cell BK403.out 5).trans rfl; have hcz11_6 : w10.cell? ⟨gb403, 6, none⟩ = some (.bool a0_6) := (blk_cell BK403.out 6).trans rfl; have hfz11_0 := blk_frozen BK403.out 0; have hfz11_1 := blk_frozen BK403.out 1; have hfz11_2 := blk_frozen BK403.out 2; have hfz11_3 := blk_frozen BK403.out 3; have hfz11_4 := blk_frozen BK403.out 4; have hfz11_5 := blk_frozen BK403.out 5; have hfz11_6 := blk_frozen BK403.out 6) | ((with_reducible refine gate_callee (f := 21) rfl ?_); refine goesL_ (some 4) rfl rfl Try.func21 (by kernel_rfl) rfl #[.agg #[.int .i64 a0_0, .int .i64 a0_1, .int .i64 a0_2, .int .i64 a0_3, .int .i64 a0_4, .int .i64 a0_5, .bool a0_6]] rfl (by (try simp only [mA, mC, mN]); first | done | rfl | (simp only [List.length_drop, List.length_take]; rfl)) ?_; (with_reducible refine (spec_RouteRight.calls k a0_0 a0_1 a0_2 a0_3 a0_4 a0_5 a0_6 false _ A2.out).mono ?_); rintro e w12 ⟨rfl, hb⟩; refine ⟨_, rfl, ?_⟩; have n0_ := Aside0.mk (blk_below (g := gb403) (by (with_reducible repeat (first | refine blk_drewN ?_ _ | refine blk_drew ?_ | refine blk_alloc ?_ _)); exact BK403.out) hb); have n1_ := Aside0.mk (below_step (by repeat (first | (with_reducible first | exact HB.out | apply below_alloc | apply pw_below_drewN | apply below_drew1 | refine below_set ?_ GE403.out) | exact HB.out)) hb); clear BK403; clear HB; have BK403 := n0_; have HB := n1_; clear n0_ n1_; (try clear hb); (try clear hb2); (try clear hk); (try clear hi)))
  (try (unfold Instr.field; go_simp; unfold asAgg; go_simp; go_wp2))
  go_ret
  exact ⟨by first | rfl | (simp [errW_none, errW_some] <;> rfl) | (simp [*, errW_none, errW_some] <;> rfl), by repeat (first | (with_reducible first | exact HB.out | apply below_alloc | apply pw_below_drewN | apply below_drew1 | refine below_set ?_ GE403.out) | exact HB.out)⟩
end Go.Proofs.Ytbanbmkfdkbfiaa.PFnNote
