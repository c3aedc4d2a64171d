import Derived.Test.YtbanbmkfdkbfiaaPFnNotex0
import Derived.Test.YtbanbmkfdkbfiaaPFnNotex4
import Derived.Test.YtbanbmkfdkbfiaaPFnNotex6
import Derived.Test.YtbanbmkfdkbfiaaPFnNotex11
namespace Go.Proofs.Ytbanbmkfdkbfiaa.PFnNote
open Go.RowKit Go.Proofs.YtbanbmkfdkbfiaaW.PrintWords Go.Proofs.YtbanbmkfdkbfiaaW.PrintLast Go.Proofs.YtbanbmkfdkbfiaaW.PrintMore
attribute [local go_sem] max2_int min2_int max_two min_two max_three min_three max_four min_four
set_option linter.unusedVariables false
set_option linter.unusedSimpArgs false
def spec_l01Src_spoil.j0 : Nat → ByteArray → Int → ByteArray → Bool → List Int → Int → Int → Int → Option (ByteArray × Int × Int × Int)
 | 0, _, _, _, _, _, _, _, _ => none
 | k + 1, x1, x5, x6, x24, x1000, x1001, x1002, x1003 => if x24 = true then (if 0 ≤ x5 then (if x5 ≤ (x1.size : Int) then (if (x1.extract 0 (x5 : Int).toNat).size + x6.size ≤ 9223372036854775807 then (if (x1.extract 0 (x5 : Int).toNat).size + x6.size + (x1.extract (x5 : Int).toNat x1.size).size ≤ 9223372036854775807 then (some (((x1.extract 0 (x5 : Int).toNat) ++ x6) ++ (x1.extract (x5 : Int).toNat x1.size), x1001, x1002, x1003)) else (none)) else (none)) else (none)) else (none)) else ((spec_l01Src_one.f x1000 x1001 x1002 x1003 2).bind fun bt284 => (if bt284.1 = true then (if 0 ≤ x5 then (if x5 ≤ (x1.size : Int) then (if 0 ≤ (wrap64 (x5 + 1)) then (if (wrap64 (x5 + 1)) ≤ (x1.size : Int) then (if (x1.extract 0 (x5 : Int).toNat).size + (x1.extract ((wrap64 (x5 + 1)) : Int).toNat x1.size).size ≤ 9223372036854775807 then (some ((x1.extract 0 (x5 : Int).toNat) ++ (x1.extract ((wrap64 (x5 + 1)) : Int).toNat x1.size), bt284.2.1, bt284.2.2.1, bt284.2.2.2)) else (none)) else (none)) else (none)) else (none)) else (none)) else (if 0 ≤ x5 then (if x5 ≤ (x1.size : Int) then (if (x1.extract 0 (x5 : Int).toNat).size + x6.size ≤ 9223372036854775807 then (if 0 ≤ (wrap64 (x5 + 1)) then (if (wrap64 (x5 + 1)) ≤ (x1.size : Int) then (if (x1.extract 0 (x5 : Int).toNat).size + x6.size + (x1.extract ((wrap64 (x5 + 1)) : Int).toNat x1.size).size ≤ 9223372036854775807 then (some (((x1.extract 0 (x5 : Int).toNat) ++ x6) ++ (x1.extract ((wrap64 (x5 + 1)) : Int).toNat x1.size), bt284.2.1, bt284.2.2.1, bt284.2.2.2)) else (none)) else (none)) else (none)) else (none)) else (none)) else (none))))
def spec_l01Src_spoil.f (k : Nat) (s0_0 : List Int) (s0_1 : Int) (s0_2 : Int) (s0_3 : Int) (a1 : ByteArray) : Option (ByteArray × Int × Int × Int) := (spec_l01Src_n.f s0_0 s0_1 s0_2 s0_3 (wrap64 ((a1.size : Int) + 1))).bind fun bt269 => ((spec_l01Src_n.f s0_0 bt269.2.1 bt269.2.2.1 bt269.2.2.2 17).bind fun bt273 => (if 0 ≤ bt273.1 then (if bt273.1 < 17 then ((some (([bt (⟨#[32, 10, 48, 97, 45, 110, 44, 58, 93, 255, 40, 120, 126, 49, 128, 225, 59]⟩ : ByteArray) bt273.1] : List Int) : List Int)).bind fun y277 => (if bt269.1 = (a1.size : Int) then (spec_l01Src_spoil.j0 k a1 bt269.1 (strOfNums y277) true s0_0 bt273.2.1 bt273.2.2.1 bt273.2.2.2) else ((spec_l01Src_one.f s0_0 bt273.2.1 bt273.2.2.1 bt273.2.2.2 3).bind fun bt280 => (spec_l01Src_spoil.j0 k a1 bt269.1 (strOfNums y277) bt280.1 s0_0 bt280.2.1 bt280.2.2.1 bt280.2.2.2)))) else (none)) else (none)))
set_option maxHeartbeats 8000000 in
set_option maxRecDepth 100000 in
theorem spec_l01Src_spoil.calls (k : Nat) (g : Nat) (s0_0 : List Int) (s0_1 : Int) (s0_2 : Int) (s0_3 : Int) (a1 : ByteArray) (r1 : ByteArray) (r2 : Int) (r3 : Int) (r4 : Int) (w0 w : World) (hI : IsS117 w0 w g s0_0 s0_1 s0_2 s0_3) (hB : Below w0.heap.size w0 w) (h : spec_l01Src_spoil.f k s0_0 s0_1 s0_2 s0_3 a1 = some (r1, r2, r3, r4)) :
  Calls Try.prog 66 #[.pointer (some ⟨g, 0, none⟩), .string a1] w fun e w' => e = .returned (.string r1) ∧ IsS117 w0 w' g s0_0 r2 r3 r4 ∧ Below w0.heap.size w0 w' ∧ KeepBut w w' g none := by
 have HI0 := Aside0.mk hI
 have HK := Aside0.mk (KeepBut.refl w g none)
 have HL := Aside0.mk hB.size
 clear hI
 have HW0 := Aside0.mk hB.size
 have HB := Aside0.mk hB
 clear hB
 have H : ((spec_l01Src_n.f s0_0 s0_1 s0_2 s0_3 (wrap64 ((a1.size : Int) + 1))).bind fun bt269 => ((spec_l01Src_n.f s0_0 bt269.2.1 bt269.2.2.1 bt269.2.2.2 17).bind fun bt273 => (if 0 ≤ bt273.1 then (if bt273.1 < 17 then ((some (([bt (⟨#[32, 10, 48, 97, 45, 110, 44, 58, 93, 255, 40, 120, 126, 49, 128, 225, 59]⟩ : ByteArray) bt273.1] : List Int) : List Int)).bind fun y277 => (if bt269.1 = (a1.size : Int) then (spec_l01Src_spoil.j0 k a1 bt269.1 (strOfNums y277) true s0_0 bt273.2.1 bt273.2.2.1 bt273.2.2.2) else ((spec_l01Src_one.f s0_0 bt273.2.1 bt273.2.2.1 bt273.2.2.2 3).bind fun bt280 => (spec_l01Src_spoil.j0 k a1 bt269.1 (strOfNums y277) bt280.1 s0_0 bt280.2.1 bt280.2.2.1 bt280.2.2.2)))) else (none)) else (none)))) = some (r1, r2, r3, r4) := h
 clear h
 replace H := Option.bind_eq_some_iff.mp H
 obtain ⟨⟨t269, t270, t271, t272⟩, A30, H⟩ := H
 try dsimp only at H
 have A3 := Aside0.mk A30
 clear A30
 replace H := Option.bind_eq_some_iff.mp H
 obtain ⟨⟨t273, t274, t275, t276⟩, A40, H⟩ := H
 try dsimp only at H
 have A4 := Aside0.mk A40
 clear A40
 by_cases c5 : 0 ≤ t273
 ·rw [if_pos c5] at H
  have c5b0 : decide (0 ≤ t273) = true := decide_eq_true c5
  clear c5
  by_cases c6 : t273 < 17
  ·rw [if_pos c6] at H
   have c6b0 : decide (t273 < 17) = true := decide_eq_true c6
   clear c6
   obtain ⟨y277, hy277⟩ : ∃ y_ : List Int, y_ = (([bt (⟨#[32, 10, 48, 97, 45, 110, 44, 58, 93, 255, 40, 120, 126, 49, 128, 225, 59]⟩ : ByteArray) t273] : List Int)) := ⟨_, rfl⟩
   replace H : (if t269 = (a1.size : Int) then (spec_l01Src_spoil.j0 k a1 t269 (strOfNums y277) true s0_0 t274 t275 t276) else ((spec_l01Src_one.f s0_0 t274 t275 t276 3).bind fun bt280 => (spec_l01Src_spoil.j0 k a1 t269 (strOfNums y277) bt280.1 s0_0 bt280.2.1 bt280.2.2.1 bt280.2.2.2))) = some (r1, r2, r3, r4) := by first | (rw [hy277]; with_reducible exact H) | (have H2_ := (Option.bind_some _ _).symm.trans H; rw [hy277]; with_reducible exact H2_) | (have H2_ := (Option.bind_some _ _).symm.trans H; with_reducible exact H2_) | with_reducible exact H | (rw [hy277]; exact H) | exact H
   have Ny277 := Aside0.mk hy277
   clear hy277
   have HC8 := Aside0.mk H
   clear H
   go_enter Try.func66, Try.ntmps66
   go_upto_region 3 with (first | (go_at_call 65; (with_reducible refine (spec_l01Src_n.calls g s0_0 s0_1 s0_2 s0_3 (wrap64 ((a1.size : Int) + 1)) t269 t270 t271 t272 w0 _ ?side1 ?side2 A3.out).mono ?_); (case side1 => repeat (first | (with_reducible first | exact HI0.out | apply IsS117.alloc | apply IsS117.drewN | apply IsS117.drew | apply IsS117.set_1 | apply IsS117.set_2 | apply IsS117.set_3) | exact HI0.out | exact (default : Bool))); (case side2 => repeat (first | (with_reducible first | exact HB.out | apply below_alloc | apply pw_below_drewN | apply below_drew1 | refine below_set ?_ (IsS117.ge HI0.out)) | exact HB.out)); rintro e w9 ⟨rfl, hi, hb, hk⟩; have n0_ := Aside0.mk (KeepBut.trans (by repeat (first | (with_reducible first | exact HK.out | apply KeepBut.set_ | apply keep_drewN | apply keep_drew | apply keep_alloc) | exact HK.out)) hk (.inl rfl)); have n1_ := Aside0.mk (hb); have n2_ := Aside0.mk (hi); clear HK; clear HB; clear HI0; have HK := n0_; have HB := n1_; have HI0 := n2_; clear n0_ n1_ n2_; (try clear hb); (try clear hb2); (try clear hk); (try clear hi)) | (go_at_call 65; (with_reducible refine (spec_l01Src_n.calls g s0_0 t270 t271 t272 17 t273 t274 t275 t276 w0 _ ?side1 ?side2 A4.out).mono ?_); (case side1 => repeat (first | (with_reducible first | exact HI0.out | apply IsS117.alloc | apply IsS117.drewN | apply IsS117.drew | apply IsS117.set_1 | apply IsS117.set_2 | apply IsS117.set_3) | exact HI0.out | exact (default : Bool))); (case side2 => repeat (first | (with_reducible first | exact HB.out | apply below_alloc | apply pw_below_drewN | apply below_drew1 | refine below_set ?_ (IsS117.ge HI0.out)) | exact HB.out)); rintro e w10 ⟨rfl, hi, hb, hk⟩; have n0_ := Aside0.mk (KeepBut.trans (by repeat (first | (with_reducible first | exact HK.out | apply KeepBut.set_ | apply keep_drewN | apply keep_drew | apply keep_alloc) | exact HK.out)) hk (.inl rfl)); have n1_ := Aside0.mk (hb); have n2_ := Aside0.mk (hi); clear HK; clear HB; clear HI0; have HK := n0_; have HB := n1_; have HI0 := n2_; clear n0_ n1_ n2_; (try clear hb); (try clear hb2); (try clear hk); (try clear hi); have p7 : 0 ≤ (t273 : Int) := of_decide_eq_true (by first | (with_reducible assumption) | assumption); have q7 : t273 < (17 : Int) := of_decide_eq_true (by first | (with_reducible assumption) | assumption); have hx7 := bt_at (⟨#[32, 10, 48, 97, 45, 110, 44, 58, 93, 255, 40, 120, 126, 49, 128, 225, 59]⟩ : ByteArray) t273; replace p7 := eq_true p7; replace q7 := eq_true q7) | ((with_reducible refine gate_dst (N := 15) rfl ?_); refine Kd.R_lit (Kd.int .u8) _ 5 ?hg (N := 15) ?hd (xs := ([bt (⟨#[32, 10, 48, 97, 45, 110, 44, 58, 93, 255, 40, 120, 126, 49, 128, 225, 59]⟩ : ByteArray) t273] : List Int)) (inner := [.int .u8 (bt (⟨#[32, 10, 48, 97, 45, 110, 44, 58, 93, 255, 40, 120, 126, 49, 128, 225, 59]⟩ : ByteArray) t273)]) (ok := fun _ => True) (okp := fun _ => True) ?hr ?hp (fun _ hk => hk) trivial (Below.refl _ _) (Nat.le_refl _) (by simp) ?_; (case hd => rfl); (case hg => rfl); (case hr => first | (go_simp; done) | (go_simp; rfl)); (case hp => exact (Reps.one (show Kd.M (Kd.int .u8) _ _ _ (bt (⟨#[32, 10, 48, 97, 45, 110, 44, 58, 93, 255, 40, 120, 126, 49, 128, 225, 59]⟩ : ByteArray) t273) [.int .u8 (bt (⟨#[32, 10, 48, 97, 45, 110, 44, 58, 93, 255, 40, 120, 126, 49, 128, 225, 59]⟩ : ByteArray) t273)] from rfl) (Reps.none _ _))); intro v278 w11 ho12 hb hg_ hnew_; clear hg_ hnew_; (first | rw [← Ny277.out] at ho12 | (simp only [Int.reduceToNat] at ho12; rw [← Ny277.out] at ho12)); have n0_ := Aside0.mk (Kd.R_lower ho12 (keep_size (w := w) (g := g) (row := none) (by repeat (first | (with_reducible first | exact HK.out | apply KeepBut.set_ | apply keep_drewN | apply keep_drew | apply keep_alloc) | exact HK.out)))); have n1_ := Aside0.mk (IsS117.below (by repeat (first | (with_reducible first | exact HI0.out | apply IsS117.alloc | apply IsS117.drewN | apply IsS117.drew | apply IsS117.set_1 | apply IsS117.set_2 | apply IsS117.set_3) | exact HI0.out | exact (default : Bool))) hb); have n2_ := Aside0.mk (KeepBut.trans (by repeat (first | (with_reducible first | exact HK.out | apply KeepBut.set_ | apply keep_drewN | apply keep_drew | apply keep_alloc) | exact HK.out)) (KeepBut.of_below hb g none) (.inl rfl)); have n3_ := Aside0.mk (below_step (by repeat (first | (with_reducible first | exact HB.out | apply below_alloc | apply pw_below_drewN | apply below_drew1 | refine below_set ?_ (IsS117.ge HI0.out)) | exact HB.out)) hb); clear HI0; clear HK; clear HB; have HO279 := n0_; have HI0 := n1_; have HK := n2_; have HB := n3_; clear n0_ n1_ n2_ n3_; clear hb ho12; have hcv13 := own_string (P := Try.prog) Try.underlying22 Try.underlying5 Try.underlying9 (Kd.own_of_R HO279.out)))
   repeat (go_quiet (first | (go_at_call 65; (with_reducible refine (spec_l01Src_n.calls g s0_0 s0_1 s0_2 s0_3 (wrap64 ((a1.size : Int) + 1)) t269 t270 t271 t272 w0 _ ?side1 ?side2 A3.out).mono ?_); (case side1 => repeat (first | (with_reducible first | exact HI0.out | apply IsS117.alloc | apply IsS117.drewN | apply IsS117.drew | apply IsS117.set_1 | apply IsS117.set_2 | apply IsS117.set_3) | exact HI0.out | exact (default : Bool))); (case side2 => repeat (first | (with_reducible first | exact HB.out | apply below_alloc | apply pw_below_drewN | apply below_drew1 | refine below_set ?_ (IsS117.ge HI0.out)) | exact HB.out)); rintro e w9 ⟨rfl, hi, hb, hk⟩; have n0_ := Aside0.mk (KeepBut.trans (by repeat (first | (with_reducible first | exact HK.out | apply KeepBut.set_ | apply keep_drewN | apply keep_drew | apply keep_alloc) | exact HK.out)) hk (.inl rfl)); have n1_ := Aside0.mk (hb); have n2_ := Aside0.mk (hi); clear HK; clear HB; clear HI0; have HK := n0_; have HB := n1_; have HI0 := n2_; clear n0_ n1_ n2_; (try clear hb); (try clear hb2); (try clear hk); (try clear hi)) | (go_at_call 65; (with_reducible refine (spec_l01Src_n.calls g s0_0 t270 t271 t272 17 t273 t274 t275 t276 w0 _ ?side1 ?side2 A4.out).mono ?_); (case side1 => repeat (first | (with_reducible first | exact HI0.out | apply IsS117.alloc | apply IsS117.drewN | apply IsS117.drew | apply IsS117.set_1 | apply IsS117.set_2 | apply IsS117.set_3) | exact HI0.out | exact (default : Bool))); (case side2 => repeat (first | (with_reducible first | exact HB.out | apply below_alloc | apply pw_below_drewN | apply below_drew1 | refine below_set ?_ (IsS117.ge HI0.out)) | exact HB.out)); rintro e w10 ⟨rfl, hi, hb, hk⟩; have n0_ := Aside0.mk (KeepBut.trans (by repeat (first | (with_reducible first | exact HK.out | apply KeepBut.set_ | apply keep_drewN | apply keep_drew | apply keep_alloc) | exact HK.out)) hk (.inl rfl)); have n1_ := Aside0.mk (hb); have n2_ := Aside0.mk (hi); clear HK; clear HB; clear HI0; have HK := n0_; have HB := n1_; have HI0 := n2_; clear n0_ n1_ n2_; (try clear hb); (try clear hb2); (try clear hk); (try clear hi); have p7 : 0 ≤ (t273 : Int) := of_decide_eq_true (by first | (with_reducible assumption) | assumption); have q7 : t273 < (17 : Int) := of_decide_eq_true (by first | (with_reducible assumption) | assumption); have hx7 := bt_at (⟨#[32, 10, 48, 97, 45, 110, 44, 58, 93, 255, 40, 120, 126, 49, 128, 225, 59]⟩ : ByteArray) t273; replace p7 := eq_true p7; replace q7 := eq_true q7) | ((with_reducible refine gate_dst (N := 15) rfl ?_); refine Kd.R_lit (Kd.int .u8) _ 5 ?hg (N := 15) ?hd (xs := ([bt (⟨#[32, 10, 48, 97, 45, 110, 44, 58, 93, 255, 40, 120, 126, 49, 128, 225, 59]⟩ : ByteArray) t273] : List Int)) (inner := [.int .u8 (bt (⟨#[32, 10, 48, 97, 45, 110, 44, 58, 93, 255, 40, 120, 126, 49, 128, 225, 59]⟩ : ByteArray) t273)]) (ok := fun _ => True) (okp := fun _ => True) ?hr ?hp (fun _ hk => hk) trivial (Below.refl _ _) (Nat.le_refl _) (by simp) ?_; (case hd => rfl); (case hg => rfl); (case hr => first | (go_simp; done) | (go_simp; rfl)); (case hp => exact (Reps.one (show Kd.M (Kd.int .u8) _ _ _ (bt (⟨#[32, 10, 48, 97, 45, 110, 44, 58, 93, 255, 40, 120, 126, 49, 128, 225, 59]⟩ : ByteArray) t273) [.int .u8 (bt (⟨#[32, 10, 48, 97, 45, 110, 44, 58, 93, 255, 40, 120, 126, 49, 128, 225, 59]⟩ : ByteArray) t273)] from rfl) (Reps.none _ _))); intro v278 w11 ho12 hb hg_ hnew_; clear hg_ hnew_; (first | rw [← Ny277.out] at ho12 | (simp only [Int.reduceToNat] at ho12; rw [← Ny277.out] at ho12)); have n0_ := Aside0.mk (Kd.R_lower ho12 (keep_size (w := w) (g := g) (row := none) (by repeat (first | (with_reducible first | exact HK.out | apply KeepBut.set_ | apply keep_drewN | apply keep_drew | apply keep_alloc) | exact HK.out)))); have n1_ := Aside0.mk (IsS117.below (by repeat (first | (with_reducible first | exact HI0.out | apply IsS117.alloc | apply IsS117.drewN | apply IsS117.drew | apply IsS117.set_1 | apply IsS117.set_2 | apply IsS117.set_3) | exact HI0.out | exact (default : Bool))) hb); have n2_ := Aside0.mk (KeepBut.trans (by repeat (first | (with_reducible first | exact HK.out | apply KeepBut.set_ | apply keep_drewN | apply keep_drew | apply keep_alloc) | exact HK.out)) (KeepBut.of_below hb g none) (.inl rfl)); have n3_ := Aside0.mk (below_step (by repeat (first | (with_reducible first | exact HB.out | apply below_alloc | apply pw_below_drewN | apply below_drew1 | refine below_set ?_ (IsS117.ge HI0.out)) | exact HB.out)) hb); clear HI0; clear HK; clear HB; have HO279 := n0_; have HI0 := n1_; have HK := n2_; have HB := n3_; clear n0_ n1_ n2_ n3_; clear hb ho12; have hcv13 := own_string (P := Try.prog) Try.underlying22 Try.underlying5 Try.underlying9 (Kd.own_of_R HO279.out))); go_upto_region 3 with (first | (go_at_call 65; (with_reducible refine (spec_l01Src_n.calls g s0_0 s0_1 s0_2 s0_3 (wrap64 ((a1.size : Int) + 1)) t269 t270 t271 t272 w0 _ ?side1 ?side2 A3.out).mono ?_); (case side1 => repeat (first | (with_reducible first | exact HI0.out | apply IsS117.alloc | apply IsS117.drewN | apply IsS117.drew | apply IsS117.set_1 | apply IsS117.set_2 | apply IsS117.set_3) | exact HI0.out | exact (default : Bool))); (case side2 => repeat (first | (with_reducible first | exact HB.out | apply below_alloc | apply pw_below_drewN | apply below_drew1 | refine below_set ?_ (IsS117.ge HI0.out)) | exact HB.out)); rintro e w9 ⟨rfl, hi, hb, hk⟩; have n0_ := Aside0.mk (KeepBut.trans (by repeat (first | (with_reducible first | exact HK.out | apply KeepBut.set_ | apply keep_drewN | apply keep_drew | apply keep_alloc) | exact HK.out)) hk (.inl rfl)); have n1_ := Aside0.mk (hb); have n2_ := Aside0.mk (hi); clear HK; clear HB; clear HI0; have HK := n0_; have HB := n1_; have HI0 := n2_; clear n0_ n1_ n2_; (try clear hb); (try clear hb2); (try clear hk); (try clear hi)) | (go_at_call 65; (with_reducible refine (spec_l01Src_n.calls g s0_0 t270 t271 t272 17 t273 t274 t275 t276 w0 _ ?side1 ?side2 A4.out).mono ?_); (case side1 => repeat (first | (with_reducible first | exact HI0.out | apply IsS117.alloc | apply IsS117.drewN | apply IsS117.drew | apply IsS117.set_1 | apply IsS117.set_2 | apply IsS117.set_3) | exact HI0.out | exact (default : Bool))); (case side2 => repeat (first | (with_reducible first | exact HB.out | apply below_alloc | apply pw_below_drewN | apply below_drew1 | refine below_set ?_ (IsS117.ge HI0.out)) | exact HB.out)); rintro e w10 ⟨rfl, hi, hb, hk⟩; have n0_ := Aside0.mk (KeepBut.trans (by repeat (first | (with_reducible first | exact HK.out | apply KeepBut.set_ | apply keep_drewN | apply keep_drew | apply keep_alloc) | exact HK.out)) hk (.inl rfl)); have n1_ := Aside0.mk (hb); have n2_ := Aside0.mk (hi); clear HK; clear HB; clear HI0; have HK := n0_; have HB := n1_; have HI0 := n2_; clear n0_ n1_ n2_; (try clear hb); (try clear hb2); (try clear hk); (try clear hi); have p7 : 0 ≤ (t273 : Int) := of_decide_eq_true (by first | (with_reducible assumption) | assumption); have q7 : t273 < (17 : Int) := of_decide_eq_true (by first | (with_reducible assumption) | assumption); have hx7 := bt_at (⟨#[32, 10, 48, 97, 45, 110, 44, 58, 93, 255, 40, 120, 126, 49, 128, 225, 59]⟩ : ByteArray) t273; replace p7 := eq_true p7; replace q7 := eq_true q7) | ((with_reducible refine gate_dst (N := 15) rfl ?_); refine Kd.R_lit (Kd.int .u8) _ 5 ?hg (N := 15) ?hd (xs := ([bt (⟨#[32, 10, 48, 97, 45, 110, 44, 58, 93, 255, 40, 120, 126, 49, 128, 225, 59]⟩ : ByteArray) t273] : List Int)) (inner := [.int .u8 (bt (⟨#[32, 10, 48, 97, 45, 110, 44, 58, 93, 255, 40, 120, 126, 49, 128, 225, 59]⟩ : ByteArray) t273)]) (ok := fun _ => True) (okp := fun _ => True) ?hr ?hp (fun _ hk => hk) trivial (Below.refl _ _) (Nat.le_refl _) (by simp) ?_; (case hd => rfl); (case hg => rfl); (case hr => first | (go_simp; done) | (go_simp; rfl)); (case hp => exact (Reps.one (show Kd.M (Kd.int .u8) _ _ _ (bt (⟨#[32, 10, 48, 97, 45, 110, 44, 58, 93, 255, 40, 120, 126, 49, 128, 225, 59]⟩ : ByteArray) t273) [.int .u8 (bt (⟨#[32, 10, 48, 97, 45, 110, 44, 58, 93, 255, 40, 120, 126, 49, 128, 225, 59]⟩ : ByteArray) t273)] from rfl) (Reps.none _ _))); intro v278 w11 ho12 hb hg_ hnew_; clear hg_ hnew_; (first | rw [← Ny277.out] at ho12 | (simp only [Int.reduceToNat] at ho12; rw [← Ny277.out] at ho12)); have n0_ := Aside0.mk (Kd.R_lower ho12 (keep_size (w := w) (g := g) (row := none) (by repeat (first | (with_reducible first | exact HK.out | apply KeepBut.set_ | apply keep_drewN | apply keep_drew | apply keep_alloc) | exact HK.out)))); have n1_ := Aside0.mk (IsS117.below (by repeat (first | (with_reducible first | exact HI0.out | apply IsS117.alloc | apply IsS117.drewN | apply IsS117.drew | apply IsS117.set_1 | apply IsS117.set_2 | apply IsS117.set_3) | exact HI0.out | exact (default : Bool))) hb); have n2_ := Aside0.mk (KeepBut.trans (by repeat (first | (with_reducible first | exact HK.out | apply KeepBut.set_ | apply keep_drewN | apply keep_drew | apply keep_alloc) | exact HK.out)) (KeepBut.of_below hb g none) (.inl rfl)); have n3_ := Aside0.mk (below_step (by repeat (first | (with_reducible first | exact HB.out | apply below_alloc | apply pw_below_drewN | apply below_drew1 | refine below_set ?_ (IsS117.ge HI0.out)) | exact HB.out)) hb); clear HI0; clear HK; clear HB; have HO279 := n0_; have HI0 := n1_; have HK := n2_; have HB := n3_; clear n0_ n1_ n2_ n3_; clear hb ho12; have hcv13 := own_string (P := Try.prog) Try.underlying22 Try.underlying5 Try.underlying9 (Kd.own_of_R HO279.out))))
   (try simp only [Act.put, sI, sZ, sS])
   go_cut [24] (fun v24 wc => ∃ (kq : Nat) (x24_7 : Bool) (x1001_7 : Int) (x1002_7 : Int) (x1003_7 : Int), v24 = .bool x24_7 ∧ Aside0 (spec_l01Src_spoil.j0 kq a1 t269 (strOfNums y277) x24_7 s0_0 x1001_7 x1002_7 x1003_7 = some (r1, r2, r3, r4)) ∧ Aside0 (kq ≤ k) ∧ Aside0 (IsS117 w0 wc g s0_0 x1001_7 x1002_7 x1003_7) ∧ Aside0 (KeepBut w wc g none) ∧ Aside0 (Below w0.heap.size w0 wc))
   case first =>
    have H := HC8.out
    clear HC8
    by_cases c14 : t269 = (a1.size : Int)
    ·rw [if_pos c14] at H
     have c14b0 : (t269 == (a1.size : Int)) = true := beq_iff_eq.mpr c14
     have c14b1 : (t269 != (a1.size : Int)) = false := bne_eq_false_iff_eq.mpr c14
     clear c14
     (first | rw [c14b0] | (simp only [i64_w, i32_w]; rw [c14b0]) | skip)
     have H' := Aside0.mk H
     clear H
     go_wp2
     repeat (go_quiet (fail); try go_wp2)
     go_meet
     case rel => exact ⟨_, (true), (t274), (t275), (t276), (by first | rfl | (simp; done) | (simp [*]; done)), H', ⟨by first | omega | exact Nat.le_refl _⟩, ⟨by repeat (first | (with_reducible first | exact HI0.out | apply IsS117.alloc | apply IsS117.drewN | apply IsS117.drew | apply IsS117.set_1 | apply IsS117.set_2 | apply IsS117.set_3) | exact HI0.out | exact (default : Bool))⟩, ⟨by repeat (first | (with_reducible first | exact HK.out | apply KeepBut.set_ | apply keep_drewN | apply keep_drew | apply keep_alloc) | exact HK.out)⟩, ⟨by repeat (first | (with_reducible first | exact HB.out | apply below_alloc | apply pw_below_drewN | apply below_drew1 | refine below_set ?_ (IsS117.ge HI0.out)) | exact HB.out)⟩⟩
    ·rw [if_neg c14] at H
     have c14b0 : (t269 == (a1.size : Int)) = false := beq_eq_false_iff_ne.mpr c14
     have c14b1 : (t269 != (a1.size : Int)) = true := bne_iff_ne.mpr c14
     (first | rw [c14b0] | (simp only [i64_w, i32_w]; rw [c14b0]) | skip)
     replace H := Option.bind_eq_some_iff.mp H
     obtain ⟨⟨t280, t281, t282, t283⟩, A150, H⟩ := H
     try dsimp only at H
     have A15 := Aside0.mk A150
     clear A150
     have H' := Aside0.mk H
     clear H
     go_wp2_with (first | (go_at_call 69; (with_reducible refine (spec_l01Src_one.calls g s0_0 t274 t275 t276 3 t280 t281 t282 t283 w0 _ ?side1 ?side2 A15.out).mono ?_); (case side1 => repeat (first | (with_reducible first | exact HI0.out | apply IsS117.alloc | apply IsS117.drewN | apply IsS117.drew | apply IsS117.set_1 | apply IsS117.set_2 | apply IsS117.set_3) | exact HI0.out | exact (default : Bool))); (case side2 => repeat (first | (with_reducible first | exact HB.out | apply below_alloc | apply pw_below_drewN | apply below_drew1 | refine below_set ?_ (IsS117.ge HI0.out)) | exact HB.out)); rintro e w16 ⟨rfl, hi, hb, hk⟩; have n0_ := Aside0.mk (Kd.R_mono (Kd.R_keep (IsS117.apart (show IsS117 w0 _ g s0_0 t274 t275 t276 from by repeat (first | (with_reducible first | exact HI0.out | apply IsS117.alloc | apply IsS117.drewN | apply IsS117.drew | apply IsS117.set_1 | apply IsS117.set_2 | apply IsS117.set_3) | exact HI0.out | exact (default : Bool))) (by (with_reducible repeat (first | apply Kd.R_alloc | apply Kd.R_drewN | apply Kd.R_drew)); exact HO279.out) (by decide)) hk (fun _ h => h.2)) (fun _ h => h.1)); have n1_ := Aside0.mk (KeepBut.trans (by repeat (first | (with_reducible first | exact HK.out | apply KeepBut.set_ | apply keep_drewN | apply keep_drew | apply keep_alloc) | exact HK.out)) hk (.inl rfl)); have n2_ := Aside0.mk (hb); have n3_ := Aside0.mk (hi); clear HO279; clear HK; clear HB; clear HI0; have HO279 := n0_; have HK := n1_; have HB := n2_; have HI0 := n3_; clear n0_ n1_ n2_ n3_; (try clear hb); (try clear hb2); (try clear hk); (try clear hi)))
     (try (unfold Instr.field; go_simp; unfold asAgg; go_simp; go_wp2))
     repeat (go_quiet (first | (go_at_call 69; (with_reducible refine (spec_l01Src_one.calls g s0_0 t274 t275 t276 3 t280 t281 t282 t283 w0 _ ?side1 ?side2 A15.out).mono ?_); (case side1 => repeat (first | (with_reducible first | exact HI0.out | apply IsS117.alloc | apply IsS117.drewN | apply IsS117.drew | apply IsS117.set_1 | apply IsS117.set_2 | apply IsS117.set_3) | exact HI0.out | exact (default : Bool))); (case side2 => repeat (first | (with_reducible first | exact HB.out | apply below_alloc | apply pw_below_drewN | apply below_drew1 | refine below_set ?_ (IsS117.ge HI0.out)) | exact HB.out)); rintro e w16 ⟨rfl, hi, hb, hk⟩; have n0_ := Aside0.mk (Kd.R_mono (Kd.R_keep (IsS117.apart (show IsS117 w0 _ g s0_0 t274 t275 t276 from by repeat (first | (with_reducible first | exact HI0.out | apply IsS117.alloc | apply IsS117.drewN | apply IsS117.drew | apply IsS117.set_1 | apply IsS117.set_2 | apply IsS117.set_3) | exact HI0.out | exact (default : Bool))) (by (with_reducible repeat (first | apply Kd.R_alloc | apply Kd.R_drewN | apply Kd.R_drew)); exact HO279.out) (by decide)) hk (fun _ h => h.2)) (fun _ h => h.1)); have n1_ := Aside0.mk (KeepBut.trans (by repeat (first | (with_reducible first | exact HK.out | apply KeepBut.set_ | apply keep_drewN | apply keep_drew | apply keep_alloc) | exact HK.out)) hk (.inl rfl)); have n2_ := Aside0.mk (hb); have n3_ := Aside0.mk (hi); clear HO279; clear HK; clear HB; clear HI0; have HO279 := n0_; have HK := n1_; have HB := n2_; have HI0 := n3_; clear n0_ n1_ n2_ n3_; (try clear hb); (try clear hb2); (try clear hk); (try clear hi))); try go_wp2_with (first | (go_at_call 69; (with_reducible refine (spec_l01Src_one.calls g s0_0 t274 t275 t276 3 t280 t281 t282 t283 w0 _ ?side1 ?side2 A15.out).mono ?_); (case side1 => repeat (first | (with_reducible first | exact HI0.out | apply IsS117.alloc | apply IsS117.drewN | apply IsS117.drew | apply IsS117.set_1 | apply IsS117.set_2 | apply IsS117.set_3) | exact HI0.out | exact (default : Bool))); (case side2 => repeat (first | (with_reducible first | exact HB.out | apply below_alloc | apply pw_below_drewN | apply below_drew1 | refine below_set ?_ (IsS117.ge HI0.out)) | exact HB.out)); rintro e w16 ⟨rfl, hi, hb, hk⟩; have n0_ := Aside0.mk (Kd.R_mono (Kd.R_keep (IsS117.apart (show IsS117 w0 _ g s0_0 t274 t275 t276 from by repeat (first | (with_reducible first | exact HI0.out | apply IsS117.alloc | apply IsS117.drewN | apply IsS117.drew | apply IsS117.set_1 | apply IsS117.set_2 | apply IsS117.set_3) | exact HI0.out | exact (default : Bool))) (by (with_reducible repeat (first | apply Kd.R_alloc | apply Kd.R_drewN | apply Kd.R_drew)); exact HO279.out) (by decide)) hk (fun _ h => h.2)) (fun _ h => h.1)); have n1_ := Aside0.mk (KeepBut.trans (by repeat (first | (with_reducible first | exact HK.out | apply KeepBut.set_ | apply keep_drewN | apply keep_drew | apply keep_alloc) | exact HK.out)) hk (.inl rfl)); have n2_ := Aside0.mk (hb); have n3_ := Aside0.mk (hi); clear HO279; clear HK; clear HB; clear HI0; have HO279 := n0_; have HK := n1_; have HB := n2_; have HI0 := n3_; clear n0_ n1_ n2_ n3_; (try clear hb); (try clear hb2); (try clear hk); (try clear hi))))
     go_meet
     case rel => exact ⟨_, (t280), (t281), (t282), (t283), (by first | rfl | (simp; done) | (simp [*]; done)), H', ⟨by first | omega | exact Nat.le_refl _⟩, ⟨by repeat (first | (with_reducible first | exact HI0.out | apply IsS117.alloc | apply IsS117.drewN | apply IsS117.drew | apply IsS117.set_1 | apply IsS117.set_2 | apply IsS117.set_3) | exact HI0.out | exact (default : Bool))⟩, ⟨by repeat (first | (with_reducible first | exact HK.out | apply KeepBut.set_ | apply keep_drewN | apply keep_drew | apply keep_alloc) | exact HK.out)⟩, ⟨by repeat (first | (with_reducible first | exact HB.out | apply below_alloc | apply pw_below_drewN | apply below_drew1 | refine below_set ?_ (IsS117.ge HI0.out)) | exact HB.out)⟩⟩
   case rest =>
    clear HC8
    try clear c1
    try clear hcv1
    try clear p2
    try clear c5
    try clear c5b0
    try clear c6
    try clear c6b0
    try clear p6
    try clear p7
    try clear q7
    try clear hx7
    try clear hcv13
    try clear c14
    try clear c14b0
    try clear c14b1
    try clear p7
    try clear q7
    obtain ⟨kq, x24_7, x1001_7, x1002_7, x1003_7, rfl, HA, HJ7, HI0, HK, HB⟩ := hcut
    cases kq with
    | zero => exact absurd HA.out (by simp [spec_l01Src_spoil.j0])
    | succ kj7 =>
     have H := HA.out
     clear HA
     simp only [spec_l01Src_spoil.j0] at H
     by_cases c17 : x24_7 = true
     ·subst c17
      have H1 : (if 0 ≤ t269 then (if t269 ≤ (a1.size : Int) then (if (a1.extract 0 (t269 : Int).toNat).size + (strOfNums y277).size ≤ 9223372036854775807 then (if (a1.extract 0 (t269 : Int).toNat).size + (strOfNums y277).size + (a1.extract (t269 : Int).toNat a1.size).size ≤ 9223372036854775807 then (some (((a1.extract 0 (t269 : Int).toNat) ++ (strOfNums y277)) ++ (a1.extract (t269 : Int).toNat a1.size), x1001_7, x1002_7, x1003_7)) else (none)) else (none)) else (none)) else (none)) = some (r1, r2, r3, r4) := by rw [if_pos rfl] at H; exact H
      clear H
      have H := H1
      clear H1
      by_cases c18 : 0 ≤ t269
      ·rw [if_pos c18] at H
       have c18b0 := eq_true c18
       have c18b1 : decide (0 ≤ t269) = true := decide_eq_true c18
       clear c18
       by_cases c19 : t269 ≤ (a1.size : Int)
       ·rw [if_pos c19] at H
        have c19b0 := eq_true c19
        have c19b1 : decide (t269 ≤ (a1.size : Int)) = true := decide_eq_true c19
        clear c19
        by_cases c20 : (a1.extract 0 (t269 : Int).toNat).size + (strOfNums y277).size ≤ 9223372036854775807
        ·rw [if_pos c20] at H
         have c20b0 := eq_true c20
         have c20b1 : decide ((a1.extract 0 (t269 : Int).toNat).size + (strOfNums y277).size ≤ 9223372036854775807) = true := decide_eq_true c20
         try have c20b2 : (9223372036854775807 < (a1.extract 0 (t269 : Int).toNat).size + (strOfNums y277).size) = False := eq_false (Nat.not_lt.2 c20)
         have c20b4 : (9223372036854775807 < t269.toNat + (strOfNums y277).size) = False := eq_false (by have h_ := c20; have g_ : t269 ≤ (a1.size : Int) := of_decide_eq_true (by first | (with_reducible assumption) | assumption); simp only [ByteArray.size_extract] at h_; omega)
         have c21b0 := eq_true (of_decide_eq_true (by first | (with_reducible assumption) | assumption) : 0 ≤ t269)
         have c22b0 := eq_true (of_decide_eq_true (by first | (with_reducible assumption) | assumption) : t269 ≤ (a1.size : Int))
         by_cases c23 : (a1.extract 0 (t269 : Int).toNat).size + (strOfNums y277).size + (a1.extract (t269 : Int).toNat a1.size).size ≤ 9223372036854775807
         ·rw [if_pos c23] at H
          have c23b0 := eq_true c23
          have c23b1 : decide ((a1.extract 0 (t269 : Int).toNat).size + (strOfNums y277).size + (a1.extract (t269 : Int).toNat a1.size).size ≤ 9223372036854775807) = true := decide_eq_true c23
          try have c23b2 : (9223372036854775807 < (a1.extract 0 (t269 : Int).toNat).size + (strOfNums y277).size + (a1.extract (t269 : Int).toNat a1.size).size) = False := eq_false (Nat.not_lt.2 c23)
          have c23b4 : (9223372036854775807 < t269.toNat + (strOfNums y277).size + (a1.size - t269.toNat)) = False := eq_false (by have h_ := c23; have g_ : t269 ≤ (a1.size : Int) := of_decide_eq_true (by first | (with_reducible assumption) | assumption); simp only [ByteArray.size_extract] at h_; omega)
          simp only [Option.some.injEq, Prod.mk.injEq] at H
          obtain ⟨rfl, rfl, rfl, rfl⟩ := H
          go_wp2
          repeat (go_quiet (fail); try go_wp2)
          go_ret
          exact ⟨by first | rfl | (simp [errW_none, errW_some] <;> rfl) | (simp [*, errW_none, errW_some] <;> rfl), by repeat (first | (with_reducible first | exact HI0.out | apply IsS117.alloc | apply IsS117.drewN | apply IsS117.drew | apply IsS117.set_1 | apply IsS117.set_2 | apply IsS117.set_3) | exact HI0.out | exact (default : Bool)), by repeat (first | (with_reducible first | exact HB.out | apply below_alloc | apply pw_below_drewN | apply below_drew1 | refine below_set ?_ (IsS117.ge HI0.out)) | exact HB.out), by repeat (first | (with_reducible first | exact HK.out | apply KeepBut.set_ | apply keep_drewN | apply keep_drew | apply keep_alloc) | exact HK.out)⟩
         ·rw [if_neg c23] at H
          exact absurd H (by simp)
        ·rw [if_neg c20] at H
         exact absurd H (by simp)
       ·rw [if_neg c19] at H
        exact absurd H (by simp)
      ·rw [if_neg c18] at H
       exact absurd H (by simp)
     ·replace c17 := Bool.eq_false_iff.mpr c17
      subst c17
      have H1 : ((spec_l01Src_one.f s0_0 x1001_7 x1002_7 x1003_7 2).bind fun bt284 => (if bt284.1 = true then (if 0 ≤ t269 then (if t269 ≤ (a1.size : Int) then (if 0 ≤ (wrap64 (t269 + 1)) then (if (wrap64 (t269 + 1)) ≤ (a1.size : Int) then (if (a1.extract 0 (t269 : Int).toNat).size + (a1.extract ((wrap64 (t269 + 1)) : Int).toNat a1.size).size ≤ 9223372036854775807 then (some ((a1.extract 0 (t269 : Int).toNat) ++ (a1.extract ((wrap64 (t269 + 1)) : Int).toNat a1.size), bt284.2.1, bt284.2.2.1, bt284.2.2.2)) else (none)) else (none)) else (none)) else (none)) else (none)) else (if 0 ≤ t269 then (if t269 ≤ (a1.size : Int) then (if (a1.extract 0 (t269 : Int).toNat).size + (strOfNums y277).size ≤ 9223372036854775807 then (if 0 ≤ (wrap64 (t269 + 1)) then (if (wrap64 (t269 + 1)) ≤ (a1.size : Int) then (if (a1.extract 0 (t269 : Int).toNat).size + (strOfNums y277).size + (a1.extract ((wrap64 (t269 + 1)) : Int).toNat a1.size).size ≤ 9223372036854775807 then (some (((a1.extract 0 (t269 : Int).toNat) ++ (strOfNums y277)) ++ (a1.extract ((wrap64 (t269 + 1)) : Int).toNat a1.size), bt284.2.1, bt284.2.2.1, bt284.2.2.2)) else (none)) else (none)) else (none)) else (none)) else (none)) else (none)))) = some (r1, r2, r3, r4) := by rw [if_neg (show ¬ (false = true) by decide)] at H; exact H
      clear H
      have H := H1
      clear H1
      replace H := Option.bind_eq_some_iff.mp H
      obtain ⟨⟨t284, t285, t286, t287⟩, A240, H⟩ := H
      try dsimp only at H
      have A24 := Aside0.mk A240
      clear A240
      by_cases c25 : t284 = true
      ·subst c25
       have H1 : (if 0 ≤ t269 then (if t269 ≤ (a1.size : Int) then (if 0 ≤ (wrap64 (t269 + 1)) then (if (wrap64 (t269 + 1)) ≤ (a1.size : Int) then (if (a1.extract 0 (t269 : Int).toNat).size + (a1.extract ((wrap64 (t269 + 1)) : Int).toNat a1.size).size ≤ 9223372036854775807 then (some ((a1.extract 0 (t269 : Int).toNat) ++ (a1.extract ((wrap64 (t269 + 1)) : Int).toNat a1.size), t285, t286, t287)) else (none)) else (none)) else (none)) else (none)) else (none)) = some (r1, r2, r3, r4) := by rw [if_pos rfl] at H; exact H
       clear H
       have H := H1
       clear H1
       by_cases c26 : 0 ≤ t269
       ·rw [if_pos c26] at H
        have c26b0 := eq_true c26
        have c26b1 : decide (0 ≤ t269) = true := decide_eq_true c26
        clear c26
        by_cases c27 : t269 ≤ (a1.size : Int)
        ·rw [if_pos c27] at H
         have c27b0 := eq_true c27
         have c27b1 : decide (t269 ≤ (a1.size : Int)) = true := decide_eq_true c27
         clear c27
         obtain ⟨ji28, hji28⟩ : ∃ j_ : Int, (wrap64 (t269 + 1)) = j_ := ⟨_, rfl⟩
         replace H : (if 0 ≤ (ji28) then (if (ji28) ≤ (a1.size : Int) then (if (a1.extract 0 (t269 : Int).toNat).size + (a1.extract ((ji28) : Int).toNat a1.size).size ≤ 9223372036854775807 then (some ((a1.extract 0 (t269 : Int).toNat) ++ (a1.extract ((ji28) : Int).toNat a1.size), t285, t286, t287)) else (none)) else (none)) else (none)) = some (r1, r2, r3, r4) := by first | (rw [hji28] at H; exact H) | (simp only [hji28] at H ⊢; exact H)
         (try rw [hji28] at A24)
         have hji28w : (IntKind.i64.wrap (t269 + 1)) = ji28 := (i64_w _).trans hji28
         by_cases c29 : 0 ≤ (ji28)
         ·rw [if_pos c29] at H
          have c29b0 := eq_true c29
          have c29b1 : decide (0 ≤ (ji28)) = true := decide_eq_true c29
          clear c29
          by_cases c30 : (ji28) ≤ (a1.size : Int)
          ·rw [if_pos c30] at H
           have c30b0 := eq_true c30
           have c30b1 : decide ((ji28) ≤ (a1.size : Int)) = true := decide_eq_true c30
           clear c30
           by_cases c31 : (a1.extract 0 (t269 : Int).toNat).size + (a1.extract ((ji28) : Int).toNat a1.size).size ≤ 9223372036854775807
           ·rw [if_pos c31] at H
            have c31b0 := eq_true c31
            have c31b1 : decide ((a1.extract 0 (t269 : Int).toNat).size + (a1.extract ((ji28) : Int).toNat a1.size).size ≤ 9223372036854775807) = true := decide_eq_true c31
            try have c31b2 : (9223372036854775807 < (a1.extract 0 (t269 : Int).toNat).size + (a1.extract ((ji28) : Int).toNat a1.size).size) = False := eq_false (Nat.not_lt.2 c31)
            simp only [Option.some.injEq, Prod.mk.injEq] at H
            obtain ⟨rfl, rfl, rfl, rfl⟩ := H
            go_wp2_with (first | (go_at_call 69; (with_reducible refine (spec_l01Src_one.calls g s0_0 x1001_7 x1002_7 x1003_7 2 true t285 t286 t287 w0 _ ?side1 ?side2 A24.out).mono ?_); (case side1 => repeat (first | (with_reducible first | exact HI0.out | apply IsS117.alloc | apply IsS117.drewN | apply IsS117.drew | apply IsS117.set_1 | apply IsS117.set_2 | apply IsS117.set_3) | exact HI0.out | exact (default : Bool))); (case side2 => repeat (first | (with_reducible first | exact HB.out | apply below_alloc | apply pw_below_drewN | apply below_drew1 | refine below_set ?_ (IsS117.ge HI0.out)) | exact HB.out)); rintro e w32 ⟨rfl, hi, hb, hk⟩; have n0_ := Aside0.mk (KeepBut.trans (by repeat (first | (with_reducible first | exact HK.out | apply KeepBut.set_ | apply keep_drewN | apply keep_drew | apply keep_alloc) | exact HK.out)) hk (.inl rfl)); have n1_ := Aside0.mk (hb); have n2_ := Aside0.mk (hi); clear HK; clear HB; clear HI0; have HK := n0_; have HB := n1_; have HI0 := n2_; clear n0_ n1_ n2_; (try clear hb); (try clear hb2); (try clear hk); (try clear hi)))
            (try (unfold Instr.field; go_simp; unfold asAgg; go_simp; go_wp2))
            repeat (go_quiet (first | (go_at_call 69; (with_reducible refine (spec_l01Src_one.calls g s0_0 x1001_7 x1002_7 x1003_7 2 true t285 t286 t287 w0 _ ?side1 ?side2 A24.out).mono ?_); (case side1 => repeat (first | (with_reducible first | exact HI0.out | apply IsS117.alloc | apply IsS117.drewN | apply IsS117.drew | apply IsS117.set_1 | apply IsS117.set_2 | apply IsS117.set_3) | exact HI0.out | exact (default : Bool))); (case side2 => repeat (first | (with_reducible first | exact HB.out | apply below_alloc | apply pw_below_drewN | apply below_drew1 | refine below_set ?_ (IsS117.ge HI0.out)) | exact HB.out)); rintro e w32 ⟨rfl, hi, hb, hk⟩; have n0_ := Aside0.mk (KeepBut.trans (by repeat (first | (with_reducible first | exact HK.out | apply KeepBut.set_ | apply keep_drewN | apply keep_drew | apply keep_alloc) | exact HK.out)) hk (.inl rfl)); have n1_ := Aside0.mk (hb); have n2_ := Aside0.mk (hi); clear HK; clear HB; clear HI0; have HK := n0_; have HB := n1_; have HI0 := n2_; clear n0_ n1_ n2_; (try clear hb); (try clear hb2); (try clear hk); (try clear hi))); try go_wp2_with (first | (go_at_call 69; (with_reducible refine (spec_l01Src_one.calls g s0_0 x1001_7 x1002_7 x1003_7 2 true t285 t286 t287 w0 _ ?side1 ?side2 A24.out).mono ?_); (case side1 => repeat (first | (with_reducible first | exact HI0.out | apply IsS117.alloc | apply IsS117.drewN | apply IsS117.drew | apply IsS117.set_1 | apply IsS117.set_2 | apply IsS117.set_3) | exact HI0.out | exact (default : Bool))); (case side2 => repeat (first | (with_reducible first | exact HB.out | apply below_alloc | apply pw_below_drewN | apply below_drew1 | refine below_set ?_ (IsS117.ge HI0.out)) | exact HB.out)); rintro e w32 ⟨rfl, hi, hb, hk⟩; have n0_ := Aside0.mk (KeepBut.trans (by repeat (first | (with_reducible first | exact HK.out | apply KeepBut.set_ | apply keep_drewN | apply keep_drew | apply keep_alloc) | exact HK.out)) hk (.inl rfl)); have n1_ := Aside0.mk (hb); have n2_ := Aside0.mk (hi); clear HK; clear HB; clear HI0; have HK := n0_; have HB := n1_; have HI0 := n2_; clear n0_ n1_ n2_; (try clear hb); (try clear hb2); (try clear hk); (try clear hi))))
            go_ret
            exact ⟨by first | rfl | (simp [errW_none, errW_some] <;> rfl) | (simp only [← hji28]; first | rfl | (simp [errW_none, errW_some] <;> rfl)) | (simp [*, errW_none, errW_some] <;> rfl), by repeat (first | (with_reducible first | exact HI0.out | apply IsS117.alloc | apply IsS117.drewN | apply IsS117.drew | apply IsS117.set_1 | apply IsS117.set_2 | apply IsS117.set_3) | exact HI0.out | exact (default : Bool)), by repeat (first | (with_reducible first | exact HB.out | apply below_alloc | apply pw_below_drewN | apply below_drew1 | refine below_set ?_ (IsS117.ge HI0.out)) | exact HB.out), by repeat (first | (with_reducible first | exact HK.out | apply KeepBut.set_ | apply keep_drewN | apply keep_drew | apply keep_alloc) | exact HK.out)⟩
           ·rw [if_neg c31] at H
            exact absurd H (by simp)
          ·rw [if_neg c30] at H
           exact absurd H (by simp)
         ·rw [if_neg c29] at H
          exact absurd H (by simp)
        ·rw [if_neg c27] at H
         exact absurd H (by simp)
       ·rw [if_neg c26] at H
        exact absurd H (by simp)
      ·replace c25 := Bool.eq_false_iff.mpr c25
       subst c25
       have H1 : (if 0 ≤ t269 then (if t269 ≤ (a1.size : Int) then (if (a1.extract 0 (t269 : Int).toNat).size + (strOfNums y277).size ≤ 9223372036854775807 then (if 0 ≤ (wrap64 (t269 + 1)) then (if (wrap64 (t269 + 1)) ≤ (a1.size : Int) then (if (a1.extract 0 (t269 : Int).toNat).size + (strOfNums y277).size + (a1.extract ((wrap64 (t269 + 1)) : Int).toNat a1.size).size ≤ 9223372036854775807 then (some (((a1.extract 0 (t269 : Int).toNat) ++ (strOfNums y277)) ++ (a1.extract ((wrap64 (t269 + 1)) : Int).toNat a1.size), t285, t286, t287)) else (none)) else (none)) else (none)) else (none)) else (none)) else (none)) = some (r1, r2, r3, r4) := by rw [if_neg (show ¬ (false = true) by decide)] at H; exact H
       clear H
       have H := H1
       clear H1
       by_cases c33 : 0 ≤ t269
       ·rw [if_pos c33] at H
        have c33b0 := eq_true c33
        have c33b1 : decide (0 ≤ t269) = true := decide_eq_true c33
        clear c33
        by_cases c34 : t269 ≤ (a1.size : Int)
        ·rw [if_pos c34] at H
         have c34b0 := eq_true c34
         have c34b1 : decide (t269 ≤ (a1.size : Int)) = true := decide_eq_true c34
         clear c34
         by_cases c35 : (a1.extract 0 (t269 : Int).toNat).size + (strOfNums y277).size ≤ 9223372036854775807
         ·rw [if_pos c35] at H
          have c35b0 := eq_true c35
          have c35b1 : decide ((a1.extract 0 (t269 : Int).toNat).size + (strOfNums y277).size ≤ 9223372036854775807) = true := decide_eq_true c35
          try have c35b2 : (9223372036854775807 < (a1.extract 0 (t269 : Int).toNat).size + (strOfNums y277).size) = False := eq_false (Nat.not_lt.2 c35)
          have c35b4 : (9223372036854775807 < t269.toNat + (strOfNums y277).size) = False := eq_false (by have h_ := c35; have g_ : t269 ≤ (a1.size : Int) := of_decide_eq_true (by first | (with_reducible assumption) | assumption); simp only [ByteArray.size_extract] at h_; omega)
          obtain ⟨ji36, hji36⟩ : ∃ j_ : Int, (wrap64 (t269 + 1)) = j_ := ⟨_, rfl⟩
          replace H : (if 0 ≤ (ji36) then (if (ji36) ≤ (a1.size : Int) then (if (a1.extract 0 (t269 : Int).toNat).size + (strOfNums y277).size + (a1.extract ((ji36) : Int).toNat a1.size).size ≤ 9223372036854775807 then (some (((a1.extract 0 (t269 : Int).toNat) ++ (strOfNums y277)) ++ (a1.extract ((ji36) : Int).toNat a1.size), t285, t286, t287)) else (none)) else (none)) else (none)) = some (r1, r2, r3, r4) := by first | (rw [hji36] at H; exact H) | (simp only [hji36] at H ⊢; exact H)
          (try rw [hji36] at A24)
          have hji36w : (IntKind.i64.wrap (t269 + 1)) = ji36 := (i64_w _).trans hji36
          by_cases c37 : 0 ≤ (ji36)
          ·rw [if_pos c37] at H
           have c37b0 := eq_true c37
           have c37b1 : decide (0 ≤ (ji36)) = true := decide_eq_true c37
           clear c37
           by_cases c38 : (ji36) ≤ (a1.size : Int)
           ·rw [if_pos c38] at H
            have c38b0 := eq_true c38
            have c38b1 : decide ((ji36) ≤ (a1.size : Int)) = true := decide_eq_true c38
            clear c38
            by_cases c39 : (a1.extract 0 (t269 : Int).toNat).size + (strOfNums y277).size + (a1.extract ((ji36) : Int).toNat a1.size).size ≤ 9223372036854775807
            ·rw [if_pos c39] at H
             have c39b0 := eq_true c39
             have c39b1 : decide ((a1.extract 0 (t269 : Int).toNat).size + (strOfNums y277).size + (a1.extract ((ji36) : Int).toNat a1.size).size ≤ 9223372036854775807) = true := decide_eq_true c39
             try have c39b2 : (9223372036854775807 < (a1.extract 0 (t269 : Int).toNat).size + (strOfNums y277).size + (a1.extract ((ji36) : Int).toNat a1.size).size) = False := eq_false (Nat.not_lt.2 c39)
             have c39b4 : (9223372036854775807 < t269.toNat + (strOfNums y277).size + (a1.size - ji36.toNat)) = False := eq_false (by have h_ := c39; have g_ : t269 ≤ (a1.size : Int) := of_decide_eq_true (by first | (with_reducible assumption) | assumption); simp only [ByteArray.size_extract] at h_; omega)
             simp only [Option.some.injEq, Prod.mk.injEq] at H
             obtain ⟨rfl, rfl, rfl, rfl⟩ := H
             go_wp2_with (first | (go_at_call 69; (with_reducible refine (spec_l01Src_one.calls g s0_0 x1001_7 x1002_7 x1003_7 2 false t285 t286 t287 w0 _ ?side1 ?side2 A24.out).mono ?_); (case side1 => repeat (first | (with_reducible first | exact HI0.out | apply IsS117.alloc | apply IsS117.drewN | apply IsS117.drew | apply IsS117.set_1 | apply IsS117.set_2 | apply IsS117.set_3) | exact HI0.out | exact (default : Bool))); (case side2 => repeat (first | (with_reducible first | exact HB.out | apply below_alloc | apply pw_below_drewN | apply below_drew1 | refine below_set ?_ (IsS117.ge HI0.out)) | exact HB.out)); rintro e w40 ⟨rfl, hi, hb, hk⟩; have n0_ := Aside0.mk (KeepBut.trans (by repeat (first | (with_reducible first | exact HK.out | apply KeepBut.set_ | apply keep_drewN | apply keep_drew | apply keep_alloc) | exact HK.out)) hk (.inl rfl)); have n1_ := Aside0.mk (hb); have n2_ := Aside0.mk (hi); clear HK; clear HB; clear HI0; have HK := n0_; have HB := n1_; have HI0 := n2_; clear n0_ n1_ n2_; (try clear hb); (try clear hb2); (try clear hk); (try clear hi)))
             (try (unfold Instr.field; go_simp; unfold asAgg; go_simp; go_wp2))
             repeat (go_quiet (first | (go_at_call 69; (with_reducible refine (spec_l01Src_one.calls g s0_0 x1001_7 x1002_7 x1003_7 2 false t285 t286 t287 w0 _ ?side1 ?side2 A24.out).mono ?_); (case side1 => repeat (first | (with_reducible first | exact HI0.out | apply IsS117.alloc | apply IsS117.drewN | apply IsS117.drew | apply IsS117.set_1 | apply IsS117.set_2 | apply IsS117.set_3) | exact HI0.out | exact (default : Bool))); (case side2 => repeat (first | (with_reducible first | exact HB.out | apply below_alloc | apply pw_below_drewN | apply below_drew1 | refine below_set ?_ (IsS117.ge HI0.out)) | exact HB.out)); rintro e w40 ⟨rfl, hi, hb, hk⟩; have n0_ := Aside0.mk (KeepBut.trans (by repeat (first | (with_reducible first | exact HK.out | apply KeepBut.set_ | apply keep_drewN | apply keep_drew | apply keep_alloc) | exact HK.out)) hk (.inl rfl)); have n1_ := Aside0.mk (hb); have n2_ := Aside0.mk (hi); clear HK; clear HB; clear HI0; have HK := n0_; have HB := n1_; have HI0 := n2_; clear n0_ n1_ n2_; (try clear hb); (try clear hb2); (try clear hk); (try clear hi))); try go_wp2_with (first | (go_at_call 69; (with_reducible refine (spec_l01Src_one.calls g s0_0 x1001_7 x1002_7 x1003_7 2 false t285 t286 t287 w0 _ ?side1 ?side2 A24.out).mono ?_); (case side1 => repeat (first | (with_reducible first | exact HI0.out | apply IsS117.alloc | apply IsS117.drewN | apply IsS117.drew | apply IsS117.set_1 | apply IsS117.set_2 | apply IsS117.set_3) | exact HI0.out | exact (default : Bool))); (case side2 => repeat (first | (with_reducible first | exact HB.out | apply below_alloc | apply pw_below_drewN | apply below_drew1 | refine below_set ?_ (IsS117.ge HI0.out)) | exact HB.out)); rintro e w40 ⟨rfl, hi, hb, hk⟩; have n0_ := Aside0.mk (KeepBut.trans (by repeat (first | (with_reducible first | exact HK.out | apply KeepBut.set_ | apply keep_drewN | apply keep_drew | apply keep_alloc) | exact HK.out)) hk (.inl rfl)); have n1_ := Aside0.mk (hb); have n2_ := Aside0.mk (hi); clear HK; clear HB; clear HI0; have HK := n0_; have HB := n1_; have HI0 := n2_; clear n0_ n1_ n2_; (try clear hb); (try clear hb2); (try clear hk); (try clear hi))))
             go_ret
             exact ⟨by first | rfl | (simp [errW_none, errW_some] <;> rfl) | (simp only [← hji36]; first | rfl | (simp [errW_none, errW_some] <;> rfl)) | (simp [*, errW_none, errW_some] <;> rfl), by repeat (first | (with_reducible first | exact HI0.out | apply IsS117.alloc | apply IsS117.drewN | apply IsS117.drew | apply IsS117.set_1 | apply IsS117.set_2 | apply IsS117.set_3) | exact HI0.out | exact (default : Bool)), by repeat (first | (with_reducible first | exact HB.out | apply below_alloc | apply pw_below_drewN | apply below_drew1 | refine below_set ?_ (IsS117.ge HI0.out)) | exact HB.out), by repeat (first | (with_reducible first | exact HK.out | apply KeepBut.set_ | apply keep_drewN | apply keep_drew | apply keep_alloc) | exact HK.out)⟩
            ·rw [if_neg c39] at H
             exact absurd H (by simp)
           ·rw [if_neg c38] at H
            exact absurd H (by simp)
          ·rw [if_neg c37] at H
           exact absurd H (by simp)
         ·rw [if_neg c35] at H
          exact absurd H (by simp)
        ·rw [if_neg c34] at H
         exact absurd H (by simp)
       ·rw [if_neg c33] at H
        exact absurd H (by simp)
  ·rw [if_neg c6] at H
   exact absurd H (by simp)
 ·rw [if_neg c5] at H
  exact absurd H (by simp)
def spec_DrawNoteRead.f (k : Nat) (l0 : List Int) : Option (ByteArray) := (spec_l01Source.f k l0).bind fun bt288 => ((spec_l01Src_l04Note.f k bt288.1 bt288.2.1 bt288.2.2.1 bt288.2.2.2).bind fun bt293 => ((spec_NoteBytes.f k bt293.1 bt293.2.1 bt293.2.2.1 bt293.2.2.2.1 bt293.2.2.2.2.1 bt293.2.2.2.2.2.1 bt293.2.2.2.2.2.2.1 bt293.2.2.2.2.2.2.2.1).bind fun t304 => ((spec_l01Src_n.f bt288.1 bt293.2.2.2.2.2.2.2.2.1 bt293.2.2.2.2.2.2.2.2.2.1 bt293.2.2.2.2.2.2.2.2.2.2 4).bind fun bt305 => (if bt305.1 = 0 then ((spec_l01Src_spoil.f k bt288.1 bt305.2.1 bt305.2.2.1 bt305.2.2.2 t304).bind fun bt309 => (some bt309.1)) else (if bt305.1 = 1 then ((spec_l01Src_n.f bt288.1 bt305.2.1 bt305.2.2.1 bt305.2.2.2 (wrap64 ((t304.size : Int) + 1))).bind fun bt313 => (if 0 ≤ bt313.1 then (if bt313.1 ≤ (t304.size : Int) then (some (t304.extract 0 (bt313.1 : Int).toNat)) else (none)) else (none))) else (some t304))))))
set_option maxHeartbeats 8000000 in
set_option maxRecDepth 100000 in
theorem spec_DrawNoteRead.calls (k : Nat) (A0 : Option Addr) (c0 : Nat) (l0 : List Int) (r : ByteArray) (w : World) (hr0 : Kd.C (Kd.int .u8) w A0 l0.length l0) (hc0 : l0.length ≤ c0) (h : spec_DrawNoteRead.f k l0 = some r) :
  Calls Try.prog 24 #[.slice A0 l0.length c0] w fun e w' => e = .returned (.string r) ∧ Below w.heap.size w w' := by
 have HR0 := Aside0.mk hr0
 have HC0 := Aside0.mk hc0
 clear hr0 hc0
 have HB := Aside0.mk (Below.refl w.heap.size w)
 have H : ((spec_l01Source.f k l0).bind fun bt288 => ((spec_l01Src_l04Note.f k bt288.1 bt288.2.1 bt288.2.2.1 bt288.2.2.2).bind fun bt293 => ((spec_NoteBytes.f k bt293.1 bt293.2.1 bt293.2.2.1 bt293.2.2.2.1 bt293.2.2.2.2.1 bt293.2.2.2.2.2.1 bt293.2.2.2.2.2.2.1 bt293.2.2.2.2.2.2.2.1).bind fun t304 => ((spec_l01Src_n.f bt288.1 bt293.2.2.2.2.2.2.2.2.1 bt293.2.2.2.2.2.2.2.2.2.1 bt293.2.2.2.2.2.2.2.2.2.2 4).bind fun bt305 => (if bt305.1 = 0 then ((spec_l01Src_spoil.f k bt288.1 bt305.2.1 bt305.2.2.1 bt305.2.2.2 t304).bind fun bt309 => (some bt309.1)) else (if bt305.1 = 1 then ((spec_l01Src_n.f bt288.1 bt305.2.1 bt305.2.2.1 bt305.2.2.2 (wrap64 ((t304.size : Int) + 1))).bind fun bt313 => (if 0 ≤ bt313.1 then (if bt313.1 ≤ (t304.size : Int) then (some (t304.extract 0 (bt313.1 : Int).toNat)) else (none)) else (none))) else (some t304))))))) = some r := h
 clear h
 replace H := Option.bind_eq_some_iff.mp H
 obtain ⟨⟨t288, t289, t290, t291⟩, A20, H⟩ := H
 try dsimp only at H
 have A2 := Aside0.mk A20
 clear A20
 replace H := Option.bind_eq_some_iff.mp H
 obtain ⟨⟨t293, t294, t295, t296, t297, t298, t299, t300, t301, t302, t303⟩, A30, H⟩ := H
 try dsimp only at H
 have A3 := Aside0.mk A30
 clear A30
 replace H := Option.bind_eq_some_iff.mp H
 obtain ⟨t304, A40, H⟩ := H
 try dsimp only at H
 have A4 := Aside0.mk A40
 clear A40
 replace H := Option.bind_eq_some_iff.mp H
 obtain ⟨⟨t305, t306, t307, t308⟩, A50, H⟩ := H
 try dsimp only at H
 have A5 := Aside0.mk A50
 clear A50
 by_cases c6 : t305 = 0
 ·rw [if_pos c6] at H
  have c6b0 : (t305 == 0) = true := beq_iff_eq.mpr c6
  have c6b1 : (t305 != 0) = false := bne_eq_false_iff_eq.mpr c6
  clear c6
  replace H := Option.bind_eq_some_iff.mp H
  obtain ⟨⟨t309, t310, t311, t312⟩, A70, H⟩ := H
  try dsimp only at H
  have A7 := Aside0.mk A70
  clear A70
  obtain rfl := Option.some.inj H
  go_enter Try.func24, Try.ntmps24
  go_wp2_with (first | ((with_reducible refine gate_callee (f := 61) rfl ?_); refine goesL_ (some 6) rfl rfl Try.func61 (by kernel_rfl) rfl #[.slice A0 l0.length c0] rfl (by (try simp only [mA, mC, mN]); first | done | rfl | (simp only [List.length_drop, List.length_take]; rfl)) ?_; (with_reducible refine (spec_l01Source.calls k _ _ l0 t288 t289 t290 t291 w _ ?side1 ?side2 ?side3 A2.out).mono ?_); (case side1 => repeat (first | (with_reducible first | exact HB.out | apply below_alloc | apply pw_below_drewN | apply below_drew1) | exact HB.out)); (case side2 => exact HR0.out); (case side3 => exact HC0.out); rintro e w8 ⟨g292, rfl, hi, hb, hb2⟩; refine ⟨_, rfl, ?_⟩; have n0_ := Aside0.mk (hb); have n1_ := Aside0.mk (hi); clear HB; have HB := n0_; have HI292 := n1_; clear n0_ n1_; (try clear hb); (try clear hb2); (try clear hk); (try clear hi)) | ((with_reducible refine gate_callee (f := 84) rfl ?_); refine goesL_ (some 8) rfl rfl Try.func84 (by kernel_rfl) rfl #[.pointer (some ⟨g292, 0, none⟩)] rfl (by (try simp only [mA, mC, mN]); first | done | rfl | (simp only [List.length_drop, List.length_take]; rfl)) ?_; (with_reducible refine (spec_l01Src_l04Note.calls k g292 t288 t289 t290 t291 t293 t294 t295 t296 t297 t298 t299 t300 t301 t302 t303 w _ ?side1 ?side2 A3.out).mono ?_); (case side1 => repeat (first | (with_reducible first | exact HI292.out | apply IsS117.alloc | apply IsS117.drewN | apply IsS117.drew | apply IsS117.set_1 | apply IsS117.set_2 | apply IsS117.set_3) | exact HI292.out | exact (default : Bool))); (case side2 => repeat (first | (with_reducible first | exact HB.out | apply below_alloc | apply pw_below_drewN | apply below_drew1 | refine below_set ?_ (IsS117.ge HI292.out)) | exact HB.out)); rintro e w9 ⟨rfl, hi, hb, hk⟩; refine ⟨_, rfl, ?_⟩; have n0_ := Aside0.mk (hb); have n1_ := Aside0.mk (hi); clear HB; clear HI292; have HB := n0_; have HI292 := n1_; clear n0_ n1_; (try clear hb); (try clear hb2); (try clear hk); (try clear hi)) | ((with_reducible refine gate_callee (f := 28) rfl ?_); refine goesL_ (some 9) rfl rfl Try.func28 (by kernel_rfl) rfl #[.agg #[.int .i64 t293, .int .i64 t294, .int .i64 t295, .int .i64 t296, .int .i64 t297, .int .i64 t298, .int .i64 t299, .bool t300]] rfl (by (try simp only [mA, mC, mN]); first | done | rfl | (simp only [List.length_drop, List.length_take]; rfl)) ?_; (with_reducible refine (spec_NoteBytes.calls k t293 t294 t295 t296 t297 t298 t299 t300 t304 _ A4.out).mono ?_); rintro e w10 ⟨rfl, hb⟩; refine ⟨_, rfl, ?_⟩; have n0_ := Aside0.mk (IsS117.below (by repeat (first | (with_reducible first | exact HI292.out | apply IsS117.alloc | apply IsS117.drewN | apply IsS117.drew | apply IsS117.set_1 | apply IsS117.set_2 | apply IsS117.set_3) | exact HI292.out | exact (default : Bool))) hb); have n1_ := Aside0.mk (below_step (by repeat (first | (with_reducible first | exact HB.out | apply below_alloc | apply pw_below_drewN | apply below_drew1 | refine below_set ?_ (IsS117.ge HI292.out)) | exact HB.out)) hb); clear HI292; clear HB; have HI292 := n0_; have HB := n1_; clear n0_ n1_; (try clear hb); (try clear hb2); (try clear hk); (try clear hi)) | ((with_reducible refine gate_callee (f := 65) rfl ?_); refine goesL_ (some 11) rfl rfl Try.func65 (by kernel_rfl) rfl #[.pointer (some ⟨g292, 0, none⟩), .int .i64 4] rfl (by (try simp only [mA, mC, mN]); first | done | rfl | (simp only [List.length_drop, List.length_take]; rfl)) ?_; (with_reducible refine (spec_l01Src_n.calls g292 t288 t301 t302 t303 4 t305 t306 t307 t308 w _ ?side1 ?side2 A5.out).mono ?_); (case side1 => repeat (first | (with_reducible first | exact HI292.out | apply IsS117.alloc | apply IsS117.drewN | apply IsS117.drew | apply IsS117.set_1 | apply IsS117.set_2 | apply IsS117.set_3) | exact HI292.out | exact (default : Bool))); (case side2 => repeat (first | (with_reducible first | exact HB.out | apply below_alloc | apply pw_below_drewN | apply below_drew1 | refine below_set ?_ (IsS117.ge HI292.out)) | exact HB.out)); rintro e w11 ⟨rfl, hi, hb, hk⟩; refine ⟨_, rfl, ?_⟩; have n0_ := Aside0.mk (hb); have n1_ := Aside0.mk (hi); clear HB; clear HI292; have HB := n0_; have HI292 := n1_; clear n0_ n1_; (try clear hb); (try clear hb2); (try clear hk); (try clear hi)) | ((with_reducible refine gate_callee (f := 66) rfl ?_); refine goesL_ (some 16) rfl rfl Try.func66 (by kernel_rfl) rfl #[.pointer (some ⟨g292, 0, none⟩), .string t304] rfl (by (try simp only [mA, mC, mN]); first | done | rfl | (simp only [List.length_drop, List.length_take]; rfl)) ?_; (with_reducible refine (spec_l01Src_spoil.calls k g292 t288 t306 t307 t308 t304 t309 t310 t311 t312 w _ ?side1 ?side2 A7.out).mono ?_); (case side1 => repeat (first | (with_reducible first | exact HI292.out | apply IsS117.alloc | apply IsS117.drewN | apply IsS117.drew | apply IsS117.set_1 | apply IsS117.set_2 | apply IsS117.set_3) | exact HI292.out | exact (default : Bool))); (case side2 => repeat (first | (with_reducible first | exact HB.out | apply below_alloc | apply pw_below_drewN | apply below_drew1 | refine below_set ?_ (IsS117.ge HI292.out)) | exact HB.out)); rintro e w12 ⟨rfl, hi, hb, hk⟩; refine ⟨_, rfl, ?_⟩; have n0_ := Aside0.mk (hb); have n1_ := Aside0.mk (hi); clear HB; clear HI292; have HB := n0_; have HI292 := n1_; clear n0_ n1_; (try clear hb); (try clear hb2); (try clear hk); (try clear hi)))
  (try (unfold Instr.field; go_simp; unfold asAgg; go_simp; go_wp2))
  go_ret
  exact ⟨by first | rfl | (simp [errW_none, errW_some] <;> rfl) | (simp [*, errW_none, errW_some] <;> rfl), by repeat (first | (with_reducible first | exact HB.out | apply below_alloc | apply pw_below_drewN | apply below_drew1 | refine below_set ?_ (IsS117.ge HI292.out)) | exact HB.out)⟩
 ·rw [if_neg c6] at H
  have c6b0 : (t305 == 0) = false := beq_eq_false_iff_ne.mpr c6
  have c6b1 : (t305 != 0) = true := bne_iff_ne.mpr c6
  by_cases c13 : t305 = 1
  ·rw [if_pos c13] at H
   have c13b0 : (t305 == 1) = true := beq_iff_eq.mpr c13
   have c13b1 : (t305 != 1) = false := bne_eq_false_iff_eq.mpr c13
   clear c13
   replace H := Option.bind_eq_some_iff.mp H
   obtain ⟨⟨t313, t314, t315, t316⟩, A140, H⟩ := H
   try dsimp only at H
   have A14 := Aside0.mk A140
   clear A140
   by_cases c15 : 0 ≤ t313
   ·rw [if_pos c15] at H
    have c15b0 := eq_true c15
    have c15b1 : decide (0 ≤ t313) = true := decide_eq_true c15
    clear c15
    by_cases c16 : t313 ≤ (t304.size : Int)
    ·rw [if_pos c16] at H
     have c16b0 := eq_true c16
     have c16b1 : decide (t313 ≤ (t304.size : Int)) = true := decide_eq_true c16
     clear c16
     obtain rfl := Option.some.inj H
     go_enter Try.func24, Try.ntmps24
     go_wp2_with (first | ((with_reducible refine gate_callee (f := 61) rfl ?_); refine goesL_ (some 6) rfl rfl Try.func61 (by kernel_rfl) rfl #[.slice A0 l0.length c0] rfl (by (try simp only [mA, mC, mN]); first | done | rfl | (simp only [List.length_drop, List.length_take]; rfl)) ?_; (with_reducible refine (spec_l01Source.calls k _ _ l0 t288 t289 t290 t291 w _ ?side1 ?side2 ?side3 A2.out).mono ?_); (case side1 => repeat (first | (with_reducible first | exact HB.out | apply below_alloc | apply pw_below_drewN | apply below_drew1) | exact HB.out)); (case side2 => exact HR0.out); (case side3 => exact HC0.out); rintro e w17 ⟨g292, rfl, hi, hb, hb2⟩; refine ⟨_, rfl, ?_⟩; have n0_ := Aside0.mk (hb); have n1_ := Aside0.mk (hi); clear HB; have HB := n0_; have HI292 := n1_; clear n0_ n1_; (try clear hb); (try clear hb2); (try clear hk); (try clear hi)) | ((with_reducible refine gate_callee (f := 84) rfl ?_); refine goesL_ (some 8) rfl rfl Try.func84 (by kernel_rfl) rfl #[.pointer (some ⟨g292, 0, none⟩)] rfl (by (try simp only [mA, mC, mN]); first | done | rfl | (simp only [List.length_drop, List.length_take]; rfl)) ?_; (with_reducible refine (spec_l01Src_l04Note.calls k g292 t288 t289 t290 t291 t293 t294 t295 t296 t297 t298 t299 t300 t301 t302 t303 w _ ?side1 ?side2 A3.out).mono ?_); (case side1 => repeat (first | (with_reducible first | exact HI292.out | apply IsS117.alloc | apply IsS117.drewN | apply IsS117.drew | apply IsS117.set_1 | apply IsS117.set_2 | apply IsS117.set_3) | exact HI292.out | exact (default : Bool))); (case side2 => repeat (first | (with_reducible first | exact HB.out | apply below_alloc | apply pw_below_drewN | apply below_drew1 | refine below_set ?_ (IsS117.ge HI292.out)) | exact HB.out)); rintro e w18 ⟨rfl, hi, hb, hk⟩; refine ⟨_, rfl, ?_⟩; have n0_ := Aside0.mk (hb); have n1_ := Aside0.mk (hi); clear HB; clear HI292; have HB := n0_; have HI292 := n1_; clear n0_ n1_; (try clear hb); (try clear hb2); (try clear hk); (try clear hi)) | ((with_reducible refine gate_callee (f := 28) rfl ?_); refine goesL_ (some 9) rfl rfl Try.func28 (by kernel_rfl) rfl #[.agg #[.int .i64 t293, .int .i64 t294, .int .i64 t295, .int .i64 t296, .int .i64 t297, .int .i64 t298, .int .i64 t299, .bool t300]] rfl (by (try simp only [mA, mC, mN]); first | done | rfl | (simp only [List.length_drop, List.length_take]; rfl)) ?_; (with_reducible refine (spec_NoteBytes.calls k t293 t294 t295 t296 t297 t298 t299 t300 t304 _ A4.out).mono ?_); rintro e w19 ⟨rfl, hb⟩; refine ⟨_, rfl, ?_⟩; have n0_ := Aside0.mk (IsS117.below (by repeat (first | (with_reducible first | exact HI292.out | apply IsS117.alloc | apply IsS117.drewN | apply IsS117.drew | apply IsS117.set_1 | apply IsS117.set_2 | apply IsS117.set_3) | exact HI292.out | exact (default : Bool))) hb); have n1_ := Aside0.mk (below_step (by repeat (first | (with_reducible first | exact HB.out | apply below_alloc | apply pw_below_drewN | apply below_drew1 | refine below_set ?_ (IsS117.ge HI292.out)) | exact HB.out)) hb); clear HI292; clear HB; have HI292 := n0_; have HB := n1_; clear n0_ n1_; (try clear hb); (try clear hb2); (try clear hk); (try clear hi)) | ((with_reducible refine gate_callee (f := 65) rfl ?_); refine goesL_ (some 11) rfl rfl Try.func65 (by kernel_rfl) rfl #[.pointer (some ⟨g292, 0, none⟩), .int .i64 4] rfl (by (try simp only [mA, mC, mN]); first | done | rfl | (simp only [List.length_drop, List.length_take]; rfl)) ?_; (with_reducible refine (spec_l01Src_n.calls g292 t288 t301 t302 t303 4 t305 t306 t307 t308 w _ ?side1 ?side2 A5.out).mono ?_); (case side1 => repeat (first | (with_reducible first | exact HI292.out | apply IsS117.alloc | apply IsS117.drewN | apply IsS117.drew | apply IsS117.set_1 | apply IsS117.set_2 | apply IsS117.set_3) | exact HI292.out | exact (default : Bool))); (case side2 => repeat (first | (with_reducible first | exact HB.out | apply below_alloc | apply pw_below_drewN | apply below_drew1 | refine below_set ?_ (IsS117.ge HI292.out)) | exact HB.out)); rintro e w20 ⟨rfl, hi, hb, hk⟩; refine ⟨_, rfl, ?_⟩; have n0_ := Aside0.mk (hb); have n1_ := Aside0.mk (hi); clear HB; clear HI292; have HB := n0_; have HI292 := n1_; clear n0_ n1_; (try clear hb); (try clear hb2); (try clear hk); (try clear hi)) | ((with_reducible refine gate_callee (f := 65) rfl ?_); refine goesL_ (some 24) rfl rfl Try.func65 (by kernel_rfl) rfl #[.pointer (some ⟨g292, 0, none⟩), .int .i64 (wrap64 ((t304.size : Int) + 1))] rfl (by (try simp only [mA, mC, mN]); first | done | rfl | (simp only [List.length_drop, List.length_take]; rfl)) ?_; (with_reducible refine (spec_l01Src_n.calls g292 t288 t306 t307 t308 (wrap64 ((t304.size : Int) + 1)) t313 t314 t315 t316 w _ ?side1 ?side2 A14.out).mono ?_); (case side1 => repeat (first | (with_reducible first | exact HI292.out | apply IsS117.alloc | apply IsS117.drewN | apply IsS117.drew | apply IsS117.set_1 | apply IsS117.set_2 | apply IsS117.set_3) | exact HI292.out | exact (default : Bool))); (case side2 => repeat (first | (with_reducible first | exact HB.out | apply below_alloc | apply pw_below_drewN | apply below_drew1 | refine below_set ?_ (IsS117.ge HI292.out)) | exact HB.out)); rintro e w21 ⟨rfl, hi, hb, hk⟩; refine ⟨_, rfl, ?_⟩; have n0_ := Aside0.mk (hb); have n1_ := Aside0.mk (hi); clear HB; clear HI292; have HB := n0_; have HI292 := n1_; clear n0_ n1_; (try clear hb); (try clear hb2); (try clear hk); (try clear hi)))
     (try (unfold Instr.field; go_simp; unfold asAgg; go_simp; go_wp2))
     go_ret
     exact ⟨by first | rfl | (simp [errW_none, errW_some] <;> rfl) | (simp [*, errW_none, errW_some] <;> rfl), by repeat (first | (with_reducible first | exact HB.out | apply below_alloc | apply pw_below_drewN | apply below_drew1 | refine below_set ?_ (IsS117.ge HI292.out)) | exact HB.out)⟩
    ·rw [if_neg c16] at H
     exact absurd H (by simp)
   ·rw [if_neg c15] at H
    exact absurd H (by simp)
  ·rw [if_neg c13] at H
   have c13b0 : (t305 == 1) = false := beq_eq_false_iff_ne.mpr c13
   have c13b1 : (t305 != 1) = true := bne_iff_ne.mpr c13
   obtain rfl := Option.some.inj H
   go_enter Try.func24, Try.ntmps24
   go_wp2_with (first | ((with_reducible refine gate_callee (f := 61) rfl ?_); refine goesL_ (some 6) rfl rfl Try.func61 (by kernel_rfl) rfl #[.slice A0 l0.length c0] rfl (by (try simp only [mA, mC, mN]); first | done | rfl | (simp only [List.length_drop, List.length_take]; rfl)) ?_; (with_reducible refine (spec_l01Source.calls k _ _ l0 t288 t289 t290 t291 w _ ?side1 ?side2 ?side3 A2.out).mono ?_); (case side1 => repeat (first | (with_reducible first | exact HB.out | apply below_alloc | apply pw_below_drewN | apply below_drew1) | exact HB.out)); (case side2 => exact HR0.out); (case side3 => exact HC0.out); rintro e w22 ⟨g292, rfl, hi, hb, hb2⟩; refine ⟨_, rfl, ?_⟩; have n0_ := Aside0.mk (hb); have n1_ := Aside0.mk (hi); clear HB; have HB := n0_; have HI292 := n1_; clear n0_ n1_; (try clear hb); (try clear hb2); (try clear hk); (try clear hi)) | ((with_reducible refine gate_callee (f := 84) rfl ?_); refine goesL_ (some 8) rfl rfl Try.func84 (by kernel_rfl) rfl #[.pointer (some ⟨g292, 0, none⟩)] rfl (by (try simp only [mA, mC, mN]); first | done | rfl | (simp only [List.length_drop, List.length_take]; rfl)) ?_; (with_reducible refine (spec_l01Src_l04Note.calls k g292 t288 t289 t290 t291 t293 t294 t295 t296 t297 t298 t299 t300 t301 t302 t303 w _ ?side1 ?side2 A3.out).mono ?_); (case side1 => repeat (first | (with_reducible first | exact HI292.out | apply IsS117.alloc | apply IsS117.drewN | apply IsS117.drew | apply IsS117.set_1 | apply IsS117.set_2 | apply IsS117.set_3) | exact HI292.out | exact (default : Bool))); (case side2 => repeat (first | (with_reducible first | exact HB.out | apply below_alloc | apply pw_below_drewN | apply below_drew1 | refine below_set ?_ (IsS117.ge HI292.out)) | exact HB.out)); rintro e w23 ⟨rfl, hi, hb, hk⟩; refine ⟨_, rfl, ?_⟩; have n0_ := Aside0.mk (hb); have n1_ := Aside0.mk (hi); clear HB; clear HI292; have HB := n0_; have HI292 := n1_; clear n0_ n1_; (try clear hb); (try clear hb2); (try clear hk); (try clear hi)) | ((with_reducible refine gate_callee (f := 28) rfl ?_); refine goesL_ (some 9) rfl rfl Try.func28 (by kernel_rfl) rfl #[.agg #[.int .i64 t293, .int .i64 t294, .int .i64 t295, .int .i64 t296, .int .i64 t297, .int .i64 t298, .int .i64 t299, .bool t300]] rfl (by (try simp only [mA, mC, mN]); first | done | rfl | (simp only [List.length_drop, List.length_take]; rfl)) ?_; (with_reducible refine (spec_NoteBytes.calls k t293 t294 t295 t296 t297 t298 t299 t300 t304 _ A4.out).mono ?_); rintro e w24 ⟨rfl, hb⟩; refine ⟨_, rfl, ?_⟩; have n0_ := Aside0.mk (IsS117.below (by repeat (first | (with_reducible first | exact HI292.out | apply IsS117.alloc | apply IsS117.drewN | apply IsS117.drew | apply IsS117.set_1 | apply IsS117.set_2 | apply IsS117.set_3) | exact HI292.out | exact (default : Bool))) hb); have n1_ := Aside0.mk (below_step (by repeat (first | (with_reducible first | exact HB.out | apply below_alloc | apply pw_below_drewN | apply below_drew1 | refine below_set ?_ (IsS117.ge HI292.out)) | exact HB.out)) hb); clear HI292; clear HB; have HI292 := n0_; have HB := n1_; clear n0_ n1_; (try clear hb); (try clear hb2); (try clear hk); (try clear hi)) | ((with_reducible refine gate_callee (f := 65) rfl ?_); refine goesL_ (some 11) rfl rfl Try.func65 (by kernel_rfl) rfl #[.pointer (some ⟨g292, 0, none⟩), .int .i64 4] rfl (by (try simp only [mA, mC, mN]); first | done | rfl | (simp only [List.length_drop, List.length_take]; rfl)) ?_; (with_reducible refine (spec_l01Src_n.calls g292 t288 t301 t302 t303 4 t305 t306 t307 t308 w _ ?side1 ?side2 A5.out).mono ?_); (case side1 => repeat (first | (with_reducible first | exact HI292.out | apply IsS117.alloc | apply IsS117.drewN | apply IsS117.drew | apply IsS117.set_1 | apply IsS117.set_2 | apply IsS117.set_3) | exact HI292.out | exact (default : Bool))); (case side2 => repeat (first | (with_reducible first | exact HB.out | apply below_alloc | apply pw_below_drewN | apply below_drew1 | refine below_set ?_ (IsS117.ge HI292.out)) | exact HB.out)); rintro e w25 ⟨rfl, hi, hb, hk⟩; refine ⟨_, rfl, ?_⟩; have n0_ := Aside0.mk (hb); have n1_ := Aside0.mk (hi); clear HB; clear HI292; have HB := n0_; have HI292 := n1_; clear n0_ n1_; (try clear hb); (try clear hb2); (try clear hk); (try clear hi)))
   (try (unfold Instr.field; go_simp; unfold asAgg; go_simp; go_wp2))
   go_ret
   exact ⟨by first | rfl | (simp [errW_none, errW_some] <;> rfl) | (simp [*, errW_none, errW_some] <;> rfl), by repeat (first | (with_reducible first | exact HB.out | apply below_alloc | apply pw_below_drewN | apply below_drew1 | refine below_set ?_ (IsS117.ge HI292.out)) | exact HB.out)⟩
def impl_isLong.f (a0 : ByteArray) : Option (Bool) := some (decide ((a0.size : Int) > 8000))
set_option maxHeartbeats 8000000 in
set_option maxRecDepth 100000 in
theorem impl_isLong.calls (a0 : ByteArray) (r : Bool) (w : World) (h : impl_isLong.f a0 = some r) :
  Calls Try.prog 67 #[.string a0] w fun e w' => e = .returned (.bool r) ∧ Drawn0 w w' := by
 have H : (some (decide ((a0.size : Int) > 8000))) = some r := h
 clear h
 obtain rfl := Option.some.inj H
 go_enter Try.func67, Try.ntmps67
 go_wp2
 go_ret
 exact ⟨by first | rfl | (simp; done) | (simp [*]; done), by repeat (first | exact Drawn0.refl _ | apply Drawn0.step)⟩
mutual
def impl_getNum.l0 : Nat → ByteArray → Int → Int → Int → Option (Int × Int × Int)
 | 0, _, _, _, _ => none
 | k + 1, x0, x1, x5, x6 => if (wrap64 (x1 + x6)) ≥ (x0.size : Int) then (some (0, 0, 4)) else (if 0 ≤ (wrap64 (x1 + x6)) then (if (wrap64 (x1 + x6)) < (x0.size : Int) then (if x6 = 9 then (impl_getNum.j1 k x0 x1 x5 x6 (bt x0 (wrap64 (x1 + x6))) (decide ((bt x0 (wrap64 (x1 + x6))) > 1))) else (impl_getNum.j1 k x0 x1 x5 x6 (bt x0 (wrap64 (x1 + x6))) false)) else (none)) else (none))
def impl_getNum.j1 : Nat → ByteArray → Int → Int → Int → Int → Bool → Option (Int × Int × Int)
 | 0, _, _, _, _, _, _ => none
 | k + 1, x0, x1, x5, x6, x7, x27 => if x27 = true then (some (0, 0, 3)) else (if 0 ≤ (wrap64 (7 * x6)) then (if x7 ≥ 128 then (impl_getNum.l0 k x0 x1 (Go.bits .or .u64 x5 (shl .u64 (IntKind.u64.wrap (Go.bits .and .u8 x7 127)) (wrap64 (7 * x6)))) (wrap64 (x6 + 1))) else (if x7 = 0 then (if x6 > 0 then (some (0, 0, 3)) else (some (Go.bits .xor .i64 (wrap64 ((Go.bits .or .u64 x5 (shl .u64 (IntKind.u64.wrap (Go.bits .and .u8 x7 127)) (wrap64 (7 * x6)))) / 2)) (wrap64 (-(wrap64 (Go.bits .and .u64 (Go.bits .or .u64 x5 (shl .u64 (IntKind.u64.wrap (Go.bits .and .u8 x7 127)) (wrap64 (7 * x6)))) 1)))), wrap64 ((wrap64 (x1 + x6)) + 1), 0))) else (some (Go.bits .xor .i64 (wrap64 ((Go.bits .or .u64 x5 (shl .u64 (IntKind.u64.wrap (Go.bits .and .u8 x7 127)) (wrap64 (7 * x6)))) / 2)) (wrap64 (-(wrap64 (Go.bits .and .u64 (Go.bits .or .u64 x5 (shl .u64 (IntKind.u64.wrap (Go.bits .and .u8 x7 127)) (wrap64 (7 * x6)))) 1)))), wrap64 ((wrap64 (x1 + x6)) + 1), 0)))) else (none))
end
def impl_getNum.f (k : Nat) (a0 : ByteArray) (a1 : Int) : Option (Int × Int × Int) := impl_getNum.l0 k a0 a1 0 0
set_option maxHeartbeats 8000000 in
set_option maxRecDepth 100000 in
theorem impl_getNum.calls (k : Nat) (a0 : ByteArray) (a1 : Int) (r1 : Int) (r2 : Int) (r3 : Int) (w : World) (h : impl_getNum.f k a0 a1 = some (r1, r2, r3)) :
  Calls Try.prog 132 #[.string a0, .int .i64 a1] w fun e w' => e = .returned (.agg #[.int .i64 r1, .int .i64 r2, .int .i64 r3]) ∧ Below w.heap.size w w' := by
 have hu101 := Try.underlying101
 have HB := Aside0.mk (Below.refl w.heap.size w)
 have H : (impl_getNum.l0 k a0 a1 0 0) = some (r1, r2, r3) := h
 clear h
 have H' := Aside0.mk H
 clear H
 go_enter Try.func132, Try.ntmps132
 go_wp2_with (first | ((with_reducible refine gate_dst (N := 4) rfl ?_); refine box_event ?hg (N := 4) ?hd (cs := #[.int .i64 0, .int .i64 0, .int .i64 0]) (t := 101) ?hr ?_; (case hd => rfl); (case hg => rfl); (case hr => first | (go_simp; done) | (go_simp; rfl)); intro gb317 hg w3 hbox hb; have n0_ := Aside0.mk (below_step (by repeat (first | (with_reducible first | exact HB.out | apply below_alloc | apply pw_below_drewN | apply below_drew1) | exact HB.out)) hb); have n1_ := Aside0.mk (hbox); have n2_ := Aside0.mk ((by rw [hg]; exact (below_size (by repeat (first | (with_reducible first | exact HB.out | apply below_alloc | apply pw_below_drewN | apply below_drew1) | exact HB.out))) : w.heap.size ≤ gb317)); have n3_ := Aside0.mk ((by rw [hg]; exact (below_size (by repeat (first | (with_reducible first | exact HB.out | apply below_alloc | apply pw_below_drewN | apply below_drew1) | exact HB.out))) : w.heap.size ≤ gb317)); clear HB; have HB := n0_; have BK317 := n1_; have GW317 := n2_; have GE317 := n3_; clear n0_ n1_ n2_ n3_; clear hb hbox hg))
 (try (unfold Instr.field; go_simp; unfold asAgg; go_simp; go_wp2))
 go_loopg [5, 6] k (fun kq v5 v6 w' => ∃ (x5_1 : Int) (x6_1 : Int) (x318000_1 : Int) (x318001_1 : Int) (x318002_1 : Int), v5 = .int .u64 x5_1 ∧ v6 = .int .i64 x6_1 ∧ Aside0 (impl_getNum.l0 kq a0 a1 x5_1 x6_1 = some (r1, r2, r3)) ∧ Aside0 (kq ≤ k) ∧ Aside0 (w'.heap[gb317]? = some (.cells #[.int .i64 x318000_1, .int .i64 x318001_1, .int .i64 x318002_1] 101 (0, 0))) ∧ Aside0 (Below w.heap.size w w'))
 case atStart => exact ⟨(0), (0), (0), (0), (0), (by first | rfl | (simp; done) | (simp [*]; done)), (by first | rfl | (simp; done) | (simp [*]; done)), H', ⟨Nat.le_refl _⟩, ⟨by (with_reducible repeat (first | refine blk_drewN ?_ _ | refine blk_drew ?_ | refine blk_alloc ?_ _)); exact BK317.out⟩, ⟨by repeat (first | (with_reducible first | exact HB.out | apply below_alloc | apply pw_below_drewN | apply below_drew1 | refine below_set ?_ GE317.out) | exact HB.out)⟩⟩
 case round =>
  clear H'
  try clear c1
  try clear p2
  obtain ⟨x5_1, x6_1, x318000_1, x318001_1, x318002_1, rfl, rfl, HA, HK1, BK317, HB⟩ := hrel
  cases gk with
  | zero => exact absurd HA.out (by simp [impl_getNum.l0])
  | succ k1 =>
   have H := HA.out
   clear HA
   simp only [impl_getNum.l0] at H
   by_cases c4 : (wrap64 (a1 + x6_1)) ≥ (a0.size : Int)
   ·rw [if_pos c4] at H
    have c4b0 : decide ((a0.size : Int) ≤ (wrap64 (a1 + x6_1))) = true := decide_eq_true c4
    clear c4
    simp only [Option.some.injEq, Prod.mk.injEq] at H
    obtain ⟨rfl, rfl, rfl⟩ := H
    have hcz5_0 : wr.cell? ⟨gb317, 0, none⟩ = some (.int .i64 x318000_1) := (blk_cell BK317.out 0).trans rfl
    have hcz5_1 : wr.cell? ⟨gb317, 1, none⟩ = some (.int .i64 x318001_1) := (blk_cell BK317.out 1).trans rfl
    have hcz5_2 : wr.cell? ⟨gb317, 2, none⟩ = some (.int .i64 x318002_1) := (blk_cell BK317.out 2).trans rfl
    have hfz5_0 := blk_frozen BK317.out 0
    have hfz5_1 := blk_frozen BK317.out 1
    have hfz5_2 := blk_frozen BK317.out 2
    go_wp2
    refine bodyPost_ret (results_cell_row rfl _ _ gb317 101 #[.int .i64 0, .int .i64 0, .int .i64 4] (0, 0) _ rfl (by (with_reducible repeat (first | refine blk_drewN ?_ _ | refine blk_drew ?_ | refine blk_alloc ?_ _)); refine blk_put (cs := #[.int .i64 0, .int .i64 0, .int .i64 x318002_1]) ?_ 2 _ (by first | rfl | (subst_vars; rfl)); (with_reducible repeat (first | refine blk_drewN ?_ _ | refine blk_drew ?_ | refine blk_alloc ?_ _)); refine blk_put (cs := #[.int .i64 0, .int .i64 x318001_1, .int .i64 x318002_1]) ?_ 1 _ (by first | rfl | (subst_vars; rfl)); (with_reducible repeat (first | refine blk_drewN ?_ _ | refine blk_drew ?_ | refine blk_alloc ?_ _)); refine blk_put (cs := #[.int .i64 x318000_1, .int .i64 x318001_1, .int .i64 x318002_1]) ?_ 0 _ (by first | rfl | (subst_vars; rfl)); (with_reducible repeat (first | refine blk_drewN ?_ _ | refine blk_drew ?_ | refine blk_alloc ?_ _)); exact BK317.out) Try.underlying101 rfl (by kernel_rfl)) rfl ?_
    exact ⟨by first | rfl | (simp [errW_none, errW_some] <;> rfl) | (simp [*, errW_none, errW_some] <;> rfl), by repeat (first | (with_reducible first | exact HB.out | apply below_alloc | apply pw_below_drewN | apply below_drew1 | refine below_set ?_ GE317.out) | exact HB.out)⟩
   ·rw [if_neg c4] at H
    have c4b0 : decide ((a0.size : Int) ≤ (wrap64 (a1 + x6_1))) = false := decide_eq_false c4
    clear c4
    obtain ⟨ji6, hji6⟩ : ∃ j_ : Int, (wrap64 (a1 + x6_1)) = j_ := ⟨_, rfl⟩
    replace H : (if 0 ≤ (ji6) then (if (ji6) < (a0.size : Int) then (if x6_1 = 9 then (impl_getNum.j1 k1 a0 a1 x5_1 x6_1 (bt a0 (ji6)) (decide ((bt a0 (ji6)) > 1))) else (impl_getNum.j1 k1 a0 a1 x5_1 x6_1 (bt a0 (ji6)) false)) else (none)) else (none)) = some (r1, r2, r3) := by first | (rw [hji6] at H; exact H) | (simp only [hji6] at H ⊢; exact H)
    (try rw [hji6] at c4b0)
    have hji6w : (IntKind.i64.wrap (a1 + x6_1)) = ji6 := (i64_w _).trans hji6
    by_cases c7 : 0 ≤ (ji6)
    ·rw [if_pos c7] at H
     have c7b0 : decide (0 ≤ (ji6)) = true := decide_eq_true c7
     clear c7
     by_cases c8 : (ji6) < (a0.size : Int)
     ·rw [if_pos c8] at H
      have c8b0 : decide ((ji6) < (a0.size : Int)) = true := decide_eq_true c8
      clear c8
      have HC10 := Aside0.mk H
      clear H
      have p9 : 0 ≤ ((ji6) : Int) := of_decide_eq_true (by first | (with_reducible assumption) | assumption)
      have q9 : (ji6) < (a0.size : Int) := of_decide_eq_true (by first | (with_reducible assumption) | assumption)
      have hx9 := bt_at a0 (ji6)
      replace p9 := eq_true p9
      replace q9 := eq_true q9
      go_upto_region 7 with (fail)
      go_cut [27] (fun v27 wc => ∃ (kq : Nat) (x27_9 : Bool), v27 = .bool x27_9 ∧ Aside0 (impl_getNum.j1 kq a0 a1 x5_1 x6_1 (bt a0 (ji6)) x27_9 = some (r1, r2, r3)) ∧ Aside0 (kq ≤ k1) ∧ Aside0 (wc.heap[gb317]? = some (.cells #[.int .i64 x318000_1, .int .i64 x318001_1, .int .i64 x318002_1] 101 (0, 0))) ∧ Aside0 (Below w.heap.size w wc))
      case first =>
       have H := HC10.out
       clear HC10
       by_cases c11 : x6_1 = 9
       ·rw [if_pos c11] at H
        have c11b0 : (x6_1 == 9) = true := beq_iff_eq.mpr c11
        have c11b1 : (x6_1 != 9) = false := bne_eq_false_iff_eq.mpr c11
        clear c11
        (first | rw [c11b0] | (simp only [i64_w, i32_w]; rw [c11b0]) | skip)
        have H' := Aside0.mk H
        clear H
        go_wp2
        go_meet
        case rel => exact ⟨_, (decide ((bt a0 (ji6)) > 1)), (by first | rfl | (simp; done) | (simp only [← hji6] <;> (first | rfl | simp)) | (simp [*]; done)), H', ⟨by have := HK1.out; first | omega | exact Nat.le_refl _⟩, ⟨by (with_reducible repeat (first | refine blk_drewN ?_ _ | refine blk_drew ?_ | refine blk_alloc ?_ _)); exact BK317.out⟩, ⟨by repeat (first | (with_reducible first | exact HB.out | apply below_alloc | apply pw_below_drewN | apply below_drew1 | refine below_set ?_ GE317.out) | exact HB.out)⟩⟩
       ·rw [if_neg c11] at H
        have c11b0 : (x6_1 == 9) = false := beq_eq_false_iff_ne.mpr c11
        have c11b1 : (x6_1 != 9) = true := bne_iff_ne.mpr c11
        (first | rw [c11b0] | (simp only [i64_w, i32_w]; rw [c11b0]) | skip)
        have H' := Aside0.mk H
        clear H
        go_wp2
        go_meet
        case rel => exact ⟨_, (false), (by first | rfl | (simp; done) | (simp [*]; done)), H', ⟨by have := HK1.out; first | omega | exact Nat.le_refl _⟩, ⟨by (with_reducible repeat (first | refine blk_drewN ?_ _ | refine blk_drew ?_ | refine blk_alloc ?_ _)); exact BK317.out⟩, ⟨by repeat (first | (with_reducible first | exact HB.out | apply below_alloc | apply pw_below_drewN | apply below_drew1 | refine below_set ?_ GE317.out) | exact HB.out)⟩⟩
      case rest =>
       clear HC10
       try clear c1
       try clear p2
       try clear c4
       try clear c4b0
       try clear p6
       try clear c7
       try clear c7b0
       try clear c8
       try clear c8b0
       try clear p9
       try clear q9
       try clear hx9
       try clear c11
       try clear c11b0
       try clear c11b1
       try clear hcz5_0
       try clear hcz5_1
       try clear hcz5_2
       try clear hfz5_0
       try clear hfz5_1
       try clear hfz5_2
       try clear p2
       try clear p9
       try clear q9
       obtain ⟨kq, x27_9, rfl, HA, HJ9, BK317, HB⟩ := hcut
       cases kq with
       | zero => exact absurd HA.out (by simp [impl_getNum.j1])
       | succ kj9 =>
        have H := HA.out
        clear HA
        simp only [impl_getNum.j1] at H
        by_cases c12 : x27_9 = true
        ·subst c12
         have H1 : (some (0, 0, 3)) = some (r1, r2, r3) := by rw [if_pos rfl] at H; exact H
         clear H
         have H := H1
         clear H1
         simp only [Option.some.injEq, Prod.mk.injEq] at H
         obtain ⟨rfl, rfl, rfl⟩ := H
         have hcz13_0 : wc.cell? ⟨gb317, 0, none⟩ = some (.int .i64 x318000_1) := (blk_cell BK317.out 0).trans rfl
         have hcz13_1 : wc.cell? ⟨gb317, 1, none⟩ = some (.int .i64 x318001_1) := (blk_cell BK317.out 1).trans rfl
         have hcz13_2 : wc.cell? ⟨gb317, 2, none⟩ = some (.int .i64 x318002_1) := (blk_cell BK317.out 2).trans rfl
         have hfz13_0 := blk_frozen BK317.out 0
         have hfz13_1 := blk_frozen BK317.out 1
         have hfz13_2 := blk_frozen BK317.out 2
         go_wp2
         refine bodyPost_ret (results_cell_row rfl _ _ gb317 101 #[.int .i64 0, .int .i64 0, .int .i64 3] (0, 0) _ rfl (by (with_reducible repeat (first | refine blk_drewN ?_ _ | refine blk_drew ?_ | refine blk_alloc ?_ _)); refine blk_put (cs := #[.int .i64 0, .int .i64 0, .int .i64 x318002_1]) ?_ 2 _ (by first | rfl | (subst_vars; rfl)); (with_reducible repeat (first | refine blk_drewN ?_ _ | refine blk_drew ?_ | refine blk_alloc ?_ _)); refine blk_put (cs := #[.int .i64 0, .int .i64 x318001_1, .int .i64 x318002_1]) ?_ 1 _ (by first | rfl | (subst_vars; rfl)); (with_reducible repeat (first | refine blk_drewN ?_ _ | refine blk_drew ?_ | refine blk_alloc ?_ _)); refine blk_put (cs := #[.int .i64 x318000_1, .int .i64 x318001_1, .int .i64 x318002_1]) ?_ 0 _ (by first | rfl | (subst_vars; rfl)); (with_reducible repeat (first | refine blk_drewN ?_ _ | refine blk_drew ?_ | refine blk_alloc ?_ _)); exact BK317.out) Try.underlying101 rfl (by kernel_rfl)) rfl ?_
         exact ⟨by first | rfl | (simp [errW_none, errW_some] <;> rfl) | (simp only [← hji6]; first | rfl | (simp [errW_none, errW_some] <;> rfl)) | (simp [*, errW_none, errW_some] <;> rfl), by repeat (first | (with_reducible first | exact HB.out | apply below_alloc | apply pw_below_drewN | apply below_drew1 | refine below_set ?_ GE317.out) | exact HB.out)⟩
        ·replace c12 := Bool.eq_false_iff.mpr c12
         subst c12
         have H1 : (if 0 ≤ (wrap64 (7 * x6_1)) then (if (bt a0 (ji6)) ≥ 128 then (impl_getNum.l0 kj9 a0 a1 (Go.bits .or .u64 x5_1 (shl .u64 (IntKind.u64.wrap (Go.bits .and .u8 (bt a0 (ji6)) 127)) (wrap64 (7 * x6_1)))) (wrap64 (x6_1 + 1))) else (if (bt a0 (ji6)) = 0 then (if x6_1 > 0 then (some (0, 0, 3)) else (some (Go.bits .xor .i64 (wrap64 ((Go.bits .or .u64 x5_1 (shl .u64 (IntKind.u64.wrap (Go.bits .and .u8 (bt a0 (ji6)) 127)) (wrap64 (7 * x6_1)))) / 2)) (wrap64 (-(wrap64 (Go.bits .and .u64 (Go.bits .or .u64 x5_1 (shl .u64 (IntKind.u64.wrap (Go.bits .and .u8 (bt a0 (ji6)) 127)) (wrap64 (7 * x6_1)))) 1)))), wrap64 ((wrap64 (a1 + x6_1)) + 1), 0))) else (some (Go.bits .xor .i64 (wrap64 ((Go.bits .or .u64 x5_1 (shl .u64 (IntKind.u64.wrap (Go.bits .and .u8 (bt a0 (ji6)) 127)) (wrap64 (7 * x6_1)))) / 2)) (wrap64 (-(wrap64 (Go.bits .and .u64 (Go.bits .or .u64 x5_1 (shl .u64 (IntKind.u64.wrap (Go.bits .and .u8 (bt a0 (ji6)) 127)) (wrap64 (7 * x6_1)))) 1)))), wrap64 ((wrap64 (a1 + x6_1)) + 1), 0)))) else (none)) = some (r1, r2, r3) := by rw [if_neg (show ¬ (false = true) by decide)] at H; exact H
         clear H
         have H := H1
         clear H1
         obtain ⟨ji14, hji14⟩ : ∃ j_ : Int, (wrap64 (7 * x6_1)) = j_ := ⟨_, rfl⟩
         replace H : (if 0 ≤ (ji14) then (if (bt a0 (ji6)) ≥ 128 then (impl_getNum.l0 kj9 a0 a1 (Go.bits .or .u64 x5_1 (shl .u64 (IntKind.u64.wrap (Go.bits .and .u8 (bt a0 (ji6)) 127)) (ji14))) (wrap64 (x6_1 + 1))) else (if (bt a0 (ji6)) = 0 then (if x6_1 > 0 then (some (0, 0, 3)) else (some (Go.bits .xor .i64 (wrap64 ((Go.bits .or .u64 x5_1 (shl .u64 (IntKind.u64.wrap (Go.bits .and .u8 (bt a0 (ji6)) 127)) (ji14))) / 2)) (wrap64 (-(wrap64 (Go.bits .and .u64 (Go.bits .or .u64 x5_1 (shl .u64 (IntKind.u64.wrap (Go.bits .and .u8 (bt a0 (ji6)) 127)) (ji14))) 1)))), wrap64 ((wrap64 (a1 + x6_1)) + 1), 0))) else (some (Go.bits .xor .i64 (wrap64 ((Go.bits .or .u64 x5_1 (shl .u64 (IntKind.u64.wrap (Go.bits .and .u8 (bt a0 (ji6)) 127)) (ji14))) / 2)) (wrap64 (-(wrap64 (Go.bits .and .u64 (Go.bits .or .u64 x5_1 (shl .u64 (IntKind.u64.wrap (Go.bits .and .u8 (bt a0 (ji6)) 127)) (ji14))) 1)))), wrap64 ((wrap64 (a1 + x6_1)) + 1), 0)))) else (none)) = some (r1, r2, r3) := by first | (rw [hji14] at H; exact H) | (simp only [hji14] at H ⊢; exact H)
         have hji14w : (IntKind.i64.wrap (7 * x6_1)) = ji14 := (i64_w _).trans hji14
         by_cases c15 : 0 ≤ (ji14)
         ·rw [if_pos c15] at H
          have c15b0 := eq_true c15
          have c15b1 : decide (0 ≤ (ji14)) = true := decide_eq_true c15
          clear c15
          obtain ⟨ji16, hji16⟩ : ∃ j_ : Int, (shl .u64 (IntKind.u64.wrap (Go.bits .and .u8 (bt a0 (ji6)) 127)) (ji14)) = j_ := ⟨_, rfl⟩
          replace H : (if (bt a0 (ji6)) ≥ 128 then (impl_getNum.l0 kj9 a0 a1 (Go.bits .or .u64 x5_1 (ji16)) (wrap64 (x6_1 + 1))) else (if (bt a0 (ji6)) = 0 then (if x6_1 > 0 then (some (0, 0, 3)) else (some (Go.bits .xor .i64 (wrap64 ((Go.bits .or .u64 x5_1 (ji16)) / 2)) (wrap64 (-(wrap64 (Go.bits .and .u64 (Go.bits .or .u64 x5_1 (ji16)) 1)))), wrap64 ((wrap64 (a1 + x6_1)) + 1), 0))) else (some (Go.bits .xor .i64 (wrap64 ((Go.bits .or .u64 x5_1 (ji16)) / 2)) (wrap64 (-(wrap64 (Go.bits .and .u64 (Go.bits .or .u64 x5_1 (ji16)) 1)))), wrap64 ((wrap64 (a1 + x6_1)) + 1), 0)))) = some (r1, r2, r3) := by first | (rw [hji16] at H; exact H) | (simp only [hji16] at H ⊢; exact H)
          have hji16_ : (IntKind.u64.wrap ((IntKind.u64.wrap (Go.bits .and .u8 (bt a0 (ji6)) 127)) * 2 ^ min (ji14).toNat 64)) = ji16 := hji16
          have hji16z : (ji14) ≤ 64 → (IntKind.u64.wrap ((IntKind.u64.wrap (Go.bits .and .u8 (bt a0 (ji6)) 127)) * 2 ^ (ji14).toNat)) = ji16 := shl_small hji16
          by_cases c17 : (bt a0 (ji6)) ≥ 128
          ·rw [if_pos c17] at H
           have c17b0 : decide (128 ≤ (bt a0 (ji6))) = true := decide_eq_true c17
           clear c17
           have H' := Aside0.mk H
           clear H
           go_wp2
           go_roundg kj9
           case measure => have := HK1.out; have := HJ9.out; omega
           case rel => exact ⟨(Go.bits .or .u64 x5_1 (ji16)), (wrap64 (x6_1 + 1)), (x318000_1), (x318001_1), (x318002_1), (by first | rfl | (simp; done) | (simp only [← hji16] <;> (first | rfl | simp)) | (simp [*]; done)), (by first | rfl | (simp; done) | (simp [*]; done)), H', ⟨by have := HK1.out; have := HJ9.out; omega⟩, ⟨by (with_reducible repeat (first | refine blk_drewN ?_ _ | refine blk_drew ?_ | refine blk_alloc ?_ _)); exact BK317.out⟩, ⟨by repeat (first | (with_reducible first | exact HB.out | apply below_alloc | apply pw_below_drewN | apply below_drew1 | refine below_set ?_ GE317.out) | exact HB.out)⟩⟩
          ·rw [if_neg c17] at H
           have c17b0 : decide (128 ≤ (bt a0 (ji6))) = false := decide_eq_false c17
           clear c17
           by_cases c18 : (bt a0 (ji6)) = 0
           ·rw [if_pos c18] at H
            have c18b0 : ((bt a0 (ji6)) == 0) = true := beq_iff_eq.mpr c18
            have c18b1 : ((bt a0 (ji6)) != 0) = false := bne_eq_false_iff_eq.mpr c18
            clear c18
            by_cases c19 : x6_1 > 0
            ·rw [if_pos c19] at H
             have c19b0 : decide (0 < x6_1) = true := decide_eq_true c19
             clear c19
             simp only [Option.some.injEq, Prod.mk.injEq] at H
             obtain ⟨rfl, rfl, rfl⟩ := H
             have hcz20_0 : wc.cell? ⟨gb317, 0, none⟩ = some (.int .i64 x318000_1) := (blk_cell BK317.out 0).trans rfl
             have hcz20_1 : wc.cell? ⟨gb317, 1, none⟩ = some (.int .i64 x318001_1) := (blk_cell BK317.out 1).trans rfl
             have hcz20_2 : wc.cell? ⟨gb317, 2, none⟩ = some (.int .i64 x318002_1) := (blk_cell BK317.out 2).trans rfl
             have hfz20_0 := blk_frozen BK317.out 0
             have hfz20_1 := blk_frozen BK317.out 1
             have hfz20_2 := blk_frozen BK317.out 2
             go_wp2
             refine bodyPost_ret (results_cell_row rfl _ _ gb317 101 #[.int .i64 0, .int .i64 0, .int .i64 3] (0, 0) _ rfl (by (with_reducible repeat (first | refine blk_drewN ?_ _ | refine blk_drew ?_ | refine blk_alloc ?_ _)); refine blk_put (cs := #[.int .i64 0, .int .i64 0, .int .i64 x318002_1]) ?_ 2 _ (by first | rfl | (subst_vars; rfl)); (with_reducible repeat (first | refine blk_drewN ?_ _ | refine blk_drew ?_ | refine blk_alloc ?_ _)); refine blk_put (cs := #[.int .i64 0, .int .i64 x318001_1, .int .i64 x318002_1]) ?_ 1 _ (by first | rfl | (subst_vars; rfl)); (with_reducible repeat (first | refine blk_drewN ?_ _ | refine blk_drew ?_ | refine blk_alloc ?_ _)); refine blk_put (cs := #[.int .i64 x318000_1, .int .i64 x318001_1, .int .i64 x318002_1]) ?_ 0 _ (by first | rfl | (subst_vars; rfl)); (with_reducible repeat (first | refine blk_drewN ?_ _ | refine blk_drew ?_ | refine blk_alloc ?_ _)); exact BK317.out) Try.underlying101 rfl (by kernel_rfl)) rfl ?_
             exact ⟨by first | rfl | (simp [errW_none, errW_some] <;> rfl) | (simp only [← hji6, ← hji14, ← hji16]; first | rfl | (simp [errW_none, errW_some] <;> rfl)) | (simp [*, errW_none, errW_some] <;> rfl), by repeat (first | (with_reducible first | exact HB.out | apply below_alloc | apply pw_below_drewN | apply below_drew1 | refine below_set ?_ GE317.out) | exact HB.out)⟩
            ·rw [if_neg c19] at H
             have c19b0 : decide (0 < x6_1) = false := decide_eq_false c19
             clear c19
             simp only [Option.some.injEq, Prod.mk.injEq] at H
             obtain ⟨rfl, rfl, rfl⟩ := H
             have hcz21_0 : wc.cell? ⟨gb317, 0, none⟩ = some (.int .i64 x318000_1) := (blk_cell BK317.out 0).trans rfl
             have hcz21_1 : wc.cell? ⟨gb317, 1, none⟩ = some (.int .i64 x318001_1) := (blk_cell BK317.out 1).trans rfl
             have hcz21_2 : wc.cell? ⟨gb317, 2, none⟩ = some (.int .i64 x318002_1) := (blk_cell BK317.out 2).trans rfl
             have hfz21_0 := blk_frozen BK317.out 0
             have hfz21_1 := blk_frozen BK317.out 1
             have hfz21_2 := blk_frozen BK317.out 2
             go_wp2
             refine bodyPost_ret (results_cell_row rfl _ _ gb317 101 #[.int .i64 (Go.bits .xor .i64 (wrap64 ((Go.bits .or .u64 x5_1 (ji16)) / 2)) (wrap64 (-(wrap64 (Go.bits .and .u64 (Go.bits .or .u64 x5_1 (ji16)) 1))))), .int .i64 (wrap64 ((wrap64 (a1 + x6_1)) + 1)), .int .i64 0] (0, 0) _ rfl (by (with_reducible repeat (first | refine blk_drewN ?_ _ | refine blk_drew ?_ | refine blk_alloc ?_ _)); refine blk_put (cs := #[.int .i64 (Go.bits .xor .i64 (wrap64 ((Go.bits .or .u64 x5_1 (ji16)) / 2)) (wrap64 (-(wrap64 (Go.bits .and .u64 (Go.bits .or .u64 x5_1 (ji16)) 1))))), .int .i64 (wrap64 ((wrap64 (a1 + x6_1)) + 1)), .int .i64 x318002_1]) ?_ 2 _ (by first | rfl | (subst_vars; rfl)); (with_reducible repeat (first | refine blk_drewN ?_ _ | refine blk_drew ?_ | refine blk_alloc ?_ _)); refine blk_put (cs := #[.int .i64 (Go.bits .xor .i64 (wrap64 ((Go.bits .or .u64 x5_1 (ji16)) / 2)) (wrap64 (-(wrap64 (Go.bits .and .u64 (Go.bits .or .u64 x5_1 (ji16)) 1))))), .int .i64 x318001_1, .int .i64 x318002_1]) ?_ 1 _ (by first | rfl | (subst_vars; rfl)); (with_reducible repeat (first | refine blk_drewN ?_ _ | refine blk_drew ?_ | refine blk_alloc ?_ _)); refine blk_put (cs := #[.int .i64 x318000_1, .int .i64 x318001_1, .int .i64 x318002_1]) ?_ 0 _ (by first | rfl | (subst_vars; rfl)); (with_reducible repeat (first | refine blk_drewN ?_ _ | refine blk_drew ?_ | refine blk_alloc ?_ _)); exact BK317.out) Try.underlying101 rfl (by kernel_rfl)) rfl ?_
             exact ⟨by first | rfl | (simp [errW_none, errW_some] <;> rfl) | (simp only [← hji6, ← hji14, ← hji16]; first | rfl | (simp [errW_none, errW_some] <;> rfl)) | (simp [*, errW_none, errW_some] <;> rfl), by repeat (first | (with_reducible first | exact HB.out | apply below_alloc | apply pw_below_drewN | apply below_drew1 | refine below_set ?_ GE317.out) | exact HB.out)⟩
           ·rw [if_neg c18] at H
            have c18b0 : ((bt a0 (ji6)) == 0) = false := beq_eq_false_iff_ne.mpr c18
            have c18b1 : ((bt a0 (ji6)) != 0) = true := bne_iff_ne.mpr c18
            simp only [Option.some.injEq, Prod.mk.injEq] at H
            obtain ⟨rfl, rfl, rfl⟩ := H
            have hcz22_0 : wc.cell? ⟨gb317, 0, none⟩ = some (.int .i64 x318000_1) := (blk_cell BK317.out 0).trans rfl
            have hcz22_1 : wc.cell? ⟨gb317, 1, none⟩ = some (.int .i64 x318001_1) := (blk_cell BK317.out 1).trans rfl
            have hcz22_2 : wc.cell? ⟨gb317, 2, none⟩ = some (.int .i64 x318002_1) := (blk_cell BK317.out 2).trans rfl
            have hfz22_0 := blk_frozen BK317.out 0
            have hfz22_1 := blk_frozen BK317.out 1
            have hfz22_2 := blk_frozen BK317.out 2
            go_wp2
            refine bodyPost_ret (results_cell_row rfl _ _ gb317 101 #[.int .i64 (Go.bits .xor .i64 (wrap64 ((Go.bits .or .u64 x5_1 (ji16)) / 2)) (wrap64 (-(wrap64 (Go.bits .and .u64 (Go.bits .or .u64 x5_1 (ji16)) 1))))), .int .i64 (wrap64 ((wrap64 (a1 + x6_1)) + 1)), .int .i64 0] (0, 0) _ rfl (by (with_reducible repeat (first | refine blk_drewN ?_ _ | refine blk_drew ?_ | refine blk_alloc ?_ _)); refine blk_put (cs := #[.int .i64 (Go.bits .xor .i64 (wrap64 ((Go.bits .or .u64 x5_1 (ji16)) / 2)) (wrap64 (-(wrap64 (Go.bits .and .u64 (Go.bits .or .u64 x5_1 (ji16)) 1))))), .int .i64 (wrap64 ((wrap64 (a1 + x6_1)) + 1)), .int .i64 x318002_1]) ?_ 2 _ (by first | rfl | (subst_vars; rfl)); (with_reducible repeat (first | refine blk_drewN ?_ _ | refine blk_drew ?_ | refine blk_alloc ?_ _)); refine blk_put (cs := #[.int .i64 (Go.bits .xor .i64 (wrap64 ((Go.bits .or .u64 x5_1 (ji16)) / 2)) (wrap64 (-(wrap64 (Go.bits .and .u64 (Go.bits .or .u64 x5_1 (ji16)) 1))))), .int .i64 x318001_1, .int .i64 x318002_1]) ?_ 1 _ (by first | rfl | (subst_vars; rfl)); (with_reducible repeat (first | refine blk_drewN ?_ _ | refine blk_drew ?_ | refine blk_alloc ?_ _)); refine blk_put (cs := #[.int .i64 x318000_1, .int .i64 x318001_1, .int .i64 x318002_1]) ?_ 0 _ (by first | rfl | (subst_vars; rfl)); (with_reducible repeat (first | refine blk_drewN ?_ _ | refine blk_drew ?_ | refine blk_alloc ?_ _)); exact BK317.out) Try.underlying101 rfl (by kernel_rfl)) rfl ?_
            exact ⟨by first | rfl | (simp [errW_none, errW_some] <;> rfl) | (simp only [← hji6, ← hji14, ← hji16]; first | rfl | (simp [errW_none, errW_some] <;> rfl)) | (simp [*, errW_none, errW_some] <;> rfl), by repeat (first | (with_reducible first | exact HB.out | apply below_alloc | apply pw_below_drewN | apply below_drew1 | refine below_set ?_ GE317.out) | exact HB.out)⟩
         ·rw [if_neg c15] at H
          exact absurd H (by simp)
     ·rw [if_neg c8] at H
      exact absurd H (by simp)
    ·rw [if_neg c7] at H
     exact absurd H (by simp)
def impl_GetNum.f (k : Nat) (a0 : ByteArray) (a1 : Int) : Option (Int × Int × Int) := (impl_isLong.f a0).bind fun t319 => (if t319 = true then (some (0, 0, 2)) else (if a1 < 0 then (some (0, 0, 1)) else (if a1 ≥ (a0.size : Int) then (some (0, 0, 4)) else ((impl_getNum.f k a0 a1).bind fun bt320 => (some (bt320.1, bt320.2.1, bt320.2.2))))))
set_option maxHeartbeats 8000000 in
set_option maxRecDepth 100000 in
theorem impl_GetNum.calls (k : Nat) (a0 : ByteArray) (a1 : Int) (r1 : Int) (r2 : Int) (r3 : Int) (w : World) (h : impl_GetNum.f k a0 a1 = some (r1, r2, r3)) :
  Calls Try.prog 121 #[.string a0, .int .i64 a1] w fun e w' => e = .returned (.agg #[.int .i64 r1, .int .i64 r2, .int .i64 r3]) ∧ Below w.heap.size w w' := by
 have hu101 := Try.underlying101
 have HB := Aside0.mk (Below.refl w.heap.size w)
 have H : ((impl_isLong.f a0).bind fun t319 => (if t319 = true then (some (0, 0, 2)) else (if a1 < 0 then (some (0, 0, 1)) else (if a1 ≥ (a0.size : Int) then (some (0, 0, 4)) else ((impl_getNum.f k a0 a1).bind fun bt320 => (some (bt320.1, bt320.2.1, bt320.2.2))))))) = some (r1, r2, r3) := h
 clear h
 replace H := Option.bind_eq_some_iff.mp H
 obtain ⟨t319, A30, H⟩ := H
 try dsimp only at H
 have A3 := Aside0.mk A30
 clear A30
 by_cases c4 : t319 = true
 ·subst c4
  have H1 : (some (0, 0, 2)) = some (r1, r2, r3) := by rw [if_pos rfl] at H; exact H
  clear H
  have H := H1
  clear H1
  simp only [Option.some.injEq, Prod.mk.injEq] at H
  obtain ⟨rfl, rfl, rfl⟩ := H
  go_enter Try.func121, Try.ntmps121
  go_wp2_with (first | ((with_reducible refine gate_dst (N := 4) rfl ?_); refine box_event ?hg (N := 4) ?hd (cs := #[.int .i64 0, .int .i64 0, .int .i64 0]) (t := 101) ?hr ?_; (case hd => rfl); (case hg => rfl); (case hr => first | (go_simp; done) | (go_simp; rfl)); intro gb318 hg w5 hbox hb; have n0_ := Aside0.mk (below_step (by repeat (first | (with_reducible first | exact HB.out | apply below_alloc | apply pw_below_drewN | apply below_drew1) | exact HB.out)) hb); have n1_ := Aside0.mk (hbox); have n2_ := Aside0.mk ((by rw [hg]; exact (below_size (by repeat (first | (with_reducible first | exact HB.out | apply below_alloc | apply pw_below_drewN | apply below_drew1) | exact HB.out))) : w.heap.size ≤ gb318)); have n3_ := Aside0.mk ((by rw [hg]; exact (below_size (by repeat (first | (with_reducible first | exact HB.out | apply below_alloc | apply pw_below_drewN | apply below_drew1) | exact HB.out))) : w.heap.size ≤ gb318)); clear HB; have HB := n0_; have BK318 := n1_; have GW318 := n2_; have GE318 := n3_; clear n0_ n1_ n2_ n3_; clear hb hbox hg) | ((with_reducible refine gate_callee (f := 67) rfl ?_); refine goesL_ (some 7) rfl rfl Try.func67 (by kernel_rfl) rfl #[.string a0] rfl (by (try simp only [mA, mC, mN]); first | done | rfl | (simp only [List.length_drop, List.length_take]; rfl)) ?_; (with_reducible refine (impl_isLong.calls a0 true _ A3.out).mono ?_); rintro e w' ⟨rfl, ⟨nd, rfl⟩⟩; refine ⟨_, rfl, ?_⟩; (try (rw [drewN_self w5]; generalize hq_ : World.drewN w5 _ = w5; have n0_ : Aside0 (w5.heap[gb318]? = some (.cells #[.int .i64 0, .int .i64 0, .int .i64 0] 101 (0, 0))) := ⟨by rw [← hq_]; exact (by (with_reducible repeat (first | refine blk_drewN ?_ _ | refine blk_drew ?_ | refine blk_alloc ?_ _)); exact BK318.out)⟩; have n1_ : Aside0 (Below w.heap.size w w5) := ⟨by rw [← hq_]; exact (by repeat (first | (with_reducible first | exact HB.out | apply below_alloc | apply pw_below_drewN | apply below_drew1 | refine below_set ?_ GE318.out) | exact HB.out))⟩; clear BK318 HB hq_; have BK318 := n0_; have HB := n1_; clear n0_ n1_)); have hcz6_0 : w5.cell? ⟨gb318, 0, none⟩ = some (.int .i64 0) := (blk_cell BK318.out 0).trans rfl; have hcz6_1 : w5.cell? ⟨gb318, 1, none⟩ = some (.int .i64 0) := (blk_cell BK318.out 1).trans rfl; have hcz6_2 : w5.cell? ⟨gb318, 2, none⟩ = some (.int .i64 0) := (blk_cell BK318.out 2).trans rfl; have hfz6_0 := blk_frozen BK318.out 0; have hfz6_1 := blk_frozen BK318.out 1; have hfz6_2 := blk_frozen BK318.out 2))
  (try (unfold Instr.field; go_simp; unfold asAgg; go_simp; go_wp2))
  refine bodyPost_ret (results_cell_row rfl _ _ gb318 101 #[.int .i64 0, .int .i64 0, .int .i64 2] (0, 0) _ rfl (by (with_reducible repeat (first | refine blk_drewN ?_ _ | refine blk_drew ?_ | refine blk_alloc ?_ _)); refine blk_put (cs := #[.int .i64 0, .int .i64 0, .int .i64 0]) ?_ 2 _ (by first | rfl | (subst_vars; rfl)); (with_reducible repeat (first | refine blk_drewN ?_ _ | refine blk_drew ?_ | refine blk_alloc ?_ _)); refine blk_put (cs := #[.int .i64 0, .int .i64 0, .int .i64 0]) ?_ 1 _ (by first | rfl | (subst_vars; rfl)); (with_reducible repeat (first | refine blk_drewN ?_ _ | refine blk_drew ?_ | refine blk_alloc ?_ _)); refine blk_put (cs := #[.int .i64 0, .int .i64 0, .int .i64 0]) ?_ 0 _ (by first | rfl | (subst_vars; rfl)); (with_reducible repeat (first | refine blk_drewN ?_ _ | refine blk_drew ?_ | refine blk_alloc ?_ _)); exact BK318.out) Try.underlying101 rfl (by kernel_rfl)) rfl ?_
  exact ⟨by first | rfl | (simp [errW_none, errW_some] <;> rfl) | (simp [*, errW_none, errW_some] <;> rfl), by repeat (first | (with_reducible first | exact HB.out | apply below_alloc | apply pw_below_drewN | apply below_drew1 | refine below_set ?_ GE318.out) | exact HB.out)⟩
 ·replace c4 := Bool.eq_false_iff.mpr c4
  subst c4
  have H1 : (if a1 < 0 then (some (0, 0, 1)) else (if a1 ≥ (a0.size : Int) then (some (0, 0, 4)) else ((impl_getNum.f k a0 a1).bind fun bt320 => (some (bt320.1, bt320.2.1, bt320.2.2))))) = some (r1, r2, r3) := by rw [if_neg (show ¬ (false = true) by decide)] at H; exact H
  clear H
  have H := H1
  clear H1
  by_cases c7 : a1 < 0
  ·rw [if_pos c7] at H
   have c7b0 : decide (a1 < 0) = true := decide_eq_true c7
   clear c7
   simp only [Option.some.injEq, Prod.mk.injEq] at H
   obtain ⟨rfl, rfl, rfl⟩ := H
   go_enter Try.func121, Try.ntmps121
   go_wp2_with (first | ((with_reducible refine gate_dst (N := 4) rfl ?_); refine box_event ?hg (N := 4) ?hd (cs := #[.int .i64 0, .int .i64 0, .int .i64 0]) (t := 101) ?hr ?_; (case hd => rfl); (case hg => rfl); (case hr => first | (go_simp; done) | (go_simp; rfl)); intro gb318 hg w8 hbox hb; have n0_ := Aside0.mk (below_step (by repeat (first | (with_reducible first | exact HB.out | apply below_alloc | apply pw_below_drewN | apply below_drew1) | exact HB.out)) hb); have n1_ := Aside0.mk (hbox); have n2_ := Aside0.mk ((by rw [hg]; exact (below_size (by repeat (first | (with_reducible first | exact HB.out | apply below_alloc | apply pw_below_drewN | apply below_drew1) | exact HB.out))) : w.heap.size ≤ gb318)); have n3_ := Aside0.mk ((by rw [hg]; exact (below_size (by repeat (first | (with_reducible first | exact HB.out | apply below_alloc | apply pw_below_drewN | apply below_drew1) | exact HB.out))) : w.heap.size ≤ gb318)); clear HB; have HB := n0_; have BK318 := n1_; have GW318 := n2_; have GE318 := n3_; clear n0_ n1_ n2_ n3_; clear hb hbox hg) | ((with_reducible refine gate_callee (f := 67) rfl ?_); refine goesL_ (some 7) rfl rfl Try.func67 (by kernel_rfl) rfl #[.string a0] rfl (by (try simp only [mA, mC, mN]); first | done | rfl | (simp only [List.length_drop, List.length_take]; rfl)) ?_; (with_reducible refine (impl_isLong.calls a0 false _ A3.out).mono ?_); rintro e w' ⟨rfl, ⟨nd, rfl⟩⟩; refine ⟨_, rfl, ?_⟩; (try (rw [drewN_self w8]; generalize hq_ : World.drewN w8 _ = w8; have n0_ : Aside0 (w8.heap[gb318]? = some (.cells #[.int .i64 0, .int .i64 0, .int .i64 0] 101 (0, 0))) := ⟨by rw [← hq_]; exact (by (with_reducible repeat (first | refine blk_drewN ?_ _ | refine blk_drew ?_ | refine blk_alloc ?_ _)); exact BK318.out)⟩; have n1_ : Aside0 (Below w.heap.size w w8) := ⟨by rw [← hq_]; exact (by repeat (first | (with_reducible first | exact HB.out | apply below_alloc | apply pw_below_drewN | apply below_drew1 | refine below_set ?_ GE318.out) | exact HB.out))⟩; clear BK318 HB hq_; have BK318 := n0_; have HB := n1_; clear n0_ n1_)); have hcz9_0 : w8.cell? ⟨gb318, 0, none⟩ = some (.int .i64 0) := (blk_cell BK318.out 0).trans rfl; have hcz9_1 : w8.cell? ⟨gb318, 1, none⟩ = some (.int .i64 0) := (blk_cell BK318.out 1).trans rfl; have hcz9_2 : w8.cell? ⟨gb318, 2, none⟩ = some (.int .i64 0) := (blk_cell BK318.out 2).trans rfl; have hfz9_0 := blk_frozen BK318.out 0; have hfz9_1 := blk_frozen BK318.out 1; have hfz9_2 := blk_frozen BK318.out 2))
   (try (unfold Instr.field; go_simp; unfold asAgg; go_simp; go_wp2))
   refine bodyPost_ret (results_cell_row rfl _ _ gb318 101 #[.int .i64 0, .int .i64 0, .int .i64 1] (0, 0) _ rfl (by (with_reducible repeat (first | refine blk_drewN ?_ _ | refine blk_drew ?_ | refine blk_alloc ?_ _)); refine blk_put (cs := #[.int .i64 0, .int .i64 0, .int .i64 0]) ?_ 2 _ (by first | rfl | (subst_vars; rfl)); (with_reducible repeat (first | refine blk_drewN ?_ _ | refine blk_drew ?_ | refine blk_alloc ?_ _)); refine blk_put (cs := #[.int .i64 0, .int .i64 0, .int .i64 0]) ?_ 1 _ (by first | rfl | (subst_vars; rfl)); (with_reducible repeat (first | refine blk_drewN ?_ _ | refine blk_drew ?_ | refine blk_alloc ?_ _)); refine blk_put (cs := #[.int .i64 0, .int .i64 0, .int .i64 0]) ?_ 0 _ (by first | rfl | (subst_vars; rfl)); (with_reducible repeat (first | refine blk_drewN ?_ _ | refine blk_drew ?_ | refine blk_alloc ?_ _)); exact BK318.out) Try.underlying101 rfl (by kernel_rfl)) rfl ?_
   exact ⟨by first | rfl | (simp [errW_none, errW_some] <;> rfl) | (simp [*, errW_none, errW_some] <;> rfl), by repeat (first | (with_reducible first | exact HB.out | apply below_alloc | apply pw_below_drewN | apply below_drew1 | refine below_set ?_ GE318.out) | exact HB.out)⟩
  ·rw [if_neg c7] at H
   have c7b0 : decide (a1 < 0) = false := decide_eq_false c7
   clear c7
   by_cases c10 : a1 ≥ (a0.size : Int)
   ·rw [if_pos c10] at H
    have c10b0 : decide ((a0.size : Int) ≤ a1) = true := decide_eq_true c10
    clear c10
    simp only [Option.some.injEq, Prod.mk.injEq] at H
    obtain ⟨rfl, rfl, rfl⟩ := H
    go_enter Try.func121, Try.ntmps121
    go_wp2_with (first | ((with_reducible refine gate_dst (N := 4) rfl ?_); refine box_event ?hg (N := 4) ?hd (cs := #[.int .i64 0, .int .i64 0, .int .i64 0]) (t := 101) ?hr ?_; (case hd => rfl); (case hg => rfl); (case hr => first | (go_simp; done) | (go_simp; rfl)); intro gb318 hg w11 hbox hb; have n0_ := Aside0.mk (below_step (by repeat (first | (with_reducible first | exact HB.out | apply below_alloc | apply pw_below_drewN | apply below_drew1) | exact HB.out)) hb); have n1_ := Aside0.mk (hbox); have n2_ := Aside0.mk ((by rw [hg]; exact (below_size (by repeat (first | (with_reducible first | exact HB.out | apply below_alloc | apply pw_below_drewN | apply below_drew1) | exact HB.out))) : w.heap.size ≤ gb318)); have n3_ := Aside0.mk ((by rw [hg]; exact (below_size (by repeat (first | (with_reducible first | exact HB.out | apply below_alloc | apply pw_below_drewN | apply below_drew1) | exact HB.out))) : w.heap.size ≤ gb318)); clear HB; have HB := n0_; have BK318 := n1_; have GW318 := n2_; have GE318 := n3_; clear n0_ n1_ n2_ n3_; clear hb hbox hg) | ((with_reducible refine gate_callee (f := 67) rfl ?_); refine goesL_ (some 7) rfl rfl Try.func67 (by kernel_rfl) rfl #[.string a0] rfl (by (try simp only [mA, mC, mN]); first | done | rfl | (simp only [List.length_drop, List.length_take]; rfl)) ?_; (with_reducible refine (impl_isLong.calls a0 false _ A3.out).mono ?_); rintro e w' ⟨rfl, ⟨nd, rfl⟩⟩; refine ⟨_, rfl, ?_⟩; (try (rw [drewN_self w11]; generalize hq_ : World.drewN w11 _ = w11; have n0_ : Aside0 (w11.heap[gb318]? = some (.cells #[.int .i64 0, .int .i64 0, .int .i64 0] 101 (0, 0))) := ⟨by rw [← hq_]; exact (by (with_reducible repeat (first | refine blk_drewN ?_ _ | refine blk_drew ?_ | refine blk_alloc ?_ _)); exact BK318.out)⟩; have n1_ : Aside0 (Below w.heap.size w w11) := ⟨by rw [← hq_]; exact (by repeat (first | (with_reducible first | exact HB.out | apply below_alloc | apply pw_below_drewN | apply below_drew1 | refine below_set ?_ GE318.out) | exact HB.out))⟩; clear BK318 HB hq_; have BK318 := n0_; have HB := n1_; clear n0_ n1_)); have hcz12_0 : w11.cell? ⟨gb318, 0, none⟩ = some (.int .i64 0) := (blk_cell BK318.out 0).trans rfl; have hcz12_1 : w11.cell? ⟨gb318, 1, none⟩ = some (.int .i64 0) := (blk_cell BK318.out 1).trans rfl; have hcz12_2 : w11.cell? ⟨gb318, 2, none⟩ = some (.int .i64 0) := (blk_cell BK318.out 2).trans rfl; have hfz12_0 := blk_frozen BK318.out 0; have hfz12_1 := blk_frozen BK318.out 1; have hfz12_2 := blk_frozen BK318.out 2))
    (try (unfold Instr.field; go_simp; unfold asAgg; go_simp; go_wp2))
    refine bodyPost_ret (results_cell_row rfl _ _ gb318 101 #[.int .i64 0, .int .i64 0, .int .i64 4] (0, 0) _ rfl (by (with_reducible repeat (first | refine blk_drewN ?_ _ | refine blk_drew ?_ | refine blk_alloc ?_ _)); refine blk_put (cs := #[.int .i64 0, .int .i64 0, .int .i64 0]) ?_ 2 _ (by first | rfl | (subst_vars; rfl)); (with_reducible repeat (first | refine blk_drewN ?_ _ | refine blk_drew ?_ | refine blk_alloc ?_ _)); refine blk_put (cs := #[.int .i64 0, .int .i64 0, .int .i64 0]) ?_ 1 _ (by first | rfl | (subst_vars; rfl)); (with_reducible repeat (first | refine blk_drewN ?_ _ | refine blk_drew ?_ | refine blk_alloc ?_ _)); refine blk_put (cs := #[.int .i64 0, .int .i64 0, .int .i64 0]) ?_ 0 _ (by first | rfl | (subst_vars; rfl)); (with_reducible repeat (first | refine blk_drewN ?_ _ | refine blk_drew ?_ | refine blk_alloc ?_ _)); exact BK318.out) Try.underlying101 rfl (by kernel_rfl)) rfl ?_
    exact ⟨by first | rfl | (simp [errW_none, errW_some] <;> rfl) | (simp [*, errW_none, errW_some] <;> rfl), by repeat (first | (with_reducible first | exact HB.out | apply below_alloc | apply pw_below_drewN | apply below_drew1 | refine below_set ?_ GE318.out) | exact HB.out)⟩
   ·rw [if_neg c10] at H
    have c10b0 : decide ((a0.size : Int) ≤ a1) = false := decide_eq_false c10
    clear c10
    replace H := Option.bind_eq_some_iff.mp H
    obtain ⟨⟨t320, t321, t322⟩, A130, H⟩ := H
    try dsimp only at H
    have A13 := Aside0.mk A130
    clear A130
    simp only [Option.some.injEq, Prod.mk.injEq] at H
    obtain ⟨rfl, rfl, rfl⟩ := H
    go_enter Try.func121, Try.ntmps121
    go_wp2_with (first | ((with_reducible refine gate_dst (N := 4) rfl ?_); refine box_event ?hg (N := 4) ?hd (cs := #[.int .i64 0, .int .i64 0, .int .i64 0]) (t := 101) ?hr ?_; (case hd => rfl); (case hg => rfl); (case hr => first | (go_simp; done) | (go_simp; rfl)); intro gb318 hg w14 hbox hb; have n0_ := Aside0.mk (below_step (by repeat (first | (with_reducible first | exact HB.out | apply below_alloc | apply pw_below_drewN | apply below_drew1) | exact HB.out)) hb); have n1_ := Aside0.mk (hbox); have n2_ := Aside0.mk ((by rw [hg]; exact (below_size (by repeat (first | (with_reducible first | exact HB.out | apply below_alloc | apply pw_below_drewN | apply below_drew1) | exact HB.out))) : w.heap.size ≤ gb318)); have n3_ := Aside0.mk ((by rw [hg]; exact (below_size (by repeat (first | (with_reducible first | exact HB.out | apply below_alloc | apply pw_below_drewN | apply below_drew1) | exact HB.out))) : w.heap.size ≤ gb318)); clear HB; have HB := n0_; have BK318 := n1_; have GW318 := n2_; have GE318 := n3_; clear n0_ n1_ n2_ n3_; clear hb hbox hg) | ((with_reducible refine gate_callee (f := 67) rfl ?_); refine goesL_ (some 7) rfl rfl Try.func67 (by kernel_rfl) rfl #[.string a0] rfl (by (try simp only [mA, mC, mN]); first | done | rfl | (simp only [List.length_drop, List.length_take]; rfl)) ?_; (with_reducible refine (impl_isLong.calls a0 false _ A3.out).mono ?_); rintro e w' ⟨rfl, ⟨nd, rfl⟩⟩; refine ⟨_, rfl, ?_⟩; (try (rw [drewN_self w14]; generalize hq_ : World.drewN w14 _ = w14; have n0_ : Aside0 (w14.heap[gb318]? = some (.cells #[.int .i64 0, .int .i64 0, .int .i64 0] 101 (0, 0))) := ⟨by rw [← hq_]; exact (by (with_reducible repeat (first | refine blk_drewN ?_ _ | refine blk_drew ?_ | refine blk_alloc ?_ _)); exact BK318.out)⟩; have n1_ : Aside0 (Below w.heap.size w w14) := ⟨by rw [← hq_]; exact (by repeat (first | (with_reducible first | exact HB.out | apply below_alloc | apply pw_below_drewN | apply below_drew1 | refine below_set ?_ GE318.out) | exact HB.out))⟩; clear BK318 HB hq_; have BK318 := n0_; have HB := n1_; clear n0_ n1_))) | ((with_reducible refine gate_callee (f := 132) rfl ?_); refine goesL_ (some 21) rfl rfl Try.func132 (by kernel_rfl) rfl #[.string a0, .int .i64 a1] rfl (by (try simp only [mA, mC, mN]); first | done | rfl | (simp only [List.length_drop, List.length_take]; rfl)) ?_; (with_reducible refine (impl_getNum.calls k a0 a1 t320 t321 t322 _ A13.out).mono ?_); rintro e w15 ⟨rfl, hb⟩; refine ⟨_, rfl, ?_⟩; have n0_ := Aside0.mk (blk_below (g := gb318) (by (with_reducible repeat (first | refine blk_drewN ?_ _ | refine blk_drew ?_ | refine blk_alloc ?_ _)); exact BK318.out) hb); have n1_ := Aside0.mk (below_step (by repeat (first | (with_reducible first | exact HB.out | apply below_alloc | apply pw_below_drewN | apply below_drew1 | refine below_set ?_ GE318.out) | exact HB.out)) hb); clear BK318; clear HB; have BK318 := n0_; have HB := n1_; clear n0_ n1_; (try clear hb); (try clear hb2); (try clear hk); (try clear hi); have hcz16_0 : w15.cell? ⟨gb318, 0, none⟩ = some (.int .i64 0) := (blk_cell BK318.out 0).trans rfl; have hcz16_1 : w15.cell? ⟨gb318, 1, none⟩ = some (.int .i64 0) := (blk_cell BK318.out 1).trans rfl; have hcz16_2 : w15.cell? ⟨gb318, 2, none⟩ = some (.int .i64 0) := (blk_cell BK318.out 2).trans rfl; have hfz16_0 := blk_frozen BK318.out 0; have hfz16_1 := blk_frozen BK318.out 1; have hfz16_2 := blk_frozen BK318.out 2))
    (try (unfold Instr.field; go_simp; unfold asAgg; go_simp; go_wp2))
    refine bodyPost_ret (results_cell_row rfl _ _ gb318 101 #[.int .i64 t320, .int .i64 t321, .int .i64 t322] (0, 0) _ rfl (by (with_reducible repeat (first | refine blk_drewN ?_ _ | refine blk_drew ?_ | refine blk_alloc ?_ _)); refine blk_put (cs := #[.int .i64 t320, .int .i64 t321, .int .i64 0]) ?_ 2 _ (by first | rfl | (subst_vars; rfl)); (with_reducible repeat (first | refine blk_drewN ?_ _ | refine blk_drew ?_ | refine blk_alloc ?_ _)); refine blk_put (cs := #[.int .i64 t320, .int .i64 0, .int .i64 0]) ?_ 1 _ (by first | rfl | (subst_vars; rfl)); (with_reducible repeat (first | refine blk_drewN ?_ _ | refine blk_drew ?_ | refine blk_alloc ?_ _)); refine blk_put (cs := #[.int .i64 0, .int .i64 0, .int .i64 0]) ?_ 0 _ (by first | rfl | (subst_vars; rfl)); (with_reducible repeat (first | refine blk_drewN ?_ _ | refine blk_drew ?_ | refine blk_alloc ?_ _)); exact BK318.out) Try.underlying101 rfl (by kernel_rfl)) rfl ?_
    exact ⟨by first | rfl | (simp [errW_none, errW_some] <;> rfl) | (simp [*, errW_none, errW_some] <;> rfl), by repeat (first | (with_reducible first | exact HB.out | apply below_alloc | apply pw_below_drewN | apply below_drew1 | refine below_set ?_ GE318.out) | exact HB.out)⟩
end Go.Proofs.Ytbanbmkfdkbfiaa.PFnNote
