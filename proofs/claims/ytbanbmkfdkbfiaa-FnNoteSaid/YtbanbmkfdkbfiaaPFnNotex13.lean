import Derived.Test.YtbanbmkfdkbfiaaPFnNotex0
import Derived.Test.YtbanbmkfdkbfiaaPFnNotex9
import Derived.Test.YtbanbmkfdkbfiaaPFnNotex12
namespace Go.Proofs.Ytbanbmkfdkbfiaa.PFnNote
open Go.RowKit Go.Proofs.YtbanbmkfdkbfiaaW.PrintWords Go.Proofs.YtbanbmkfdkbfiaaW.PrintLast Go.Proofs.YtbanbmkfdkbfiaaW.PrintMore
attribute [local go_sem] max2_int min2_int max_two min_two max_three min_three max_four min_four
set_option linter.unusedVariables false
set_option linter.unusedSimpArgs false
/-- A state of type 92 at block g of W; what its slices lead to came in by w0. -/
def IsS92 (w0 W : World) (g : Nat) (f0 : ByteArray) (f1 : Int) (f2 : Bool) : Prop := W.heap[g]? = some (.cells #[.string f0, .int .i64 f1, .bool f2] 92 (0, 0)) ∧ w0.heap.size ≤ g
theorem IsS92.grown {w0 W : World} {g : Nat} {f0 : ByteArray} {f1 : Int} {f2 : Bool} {W1 : World} {row : Option Nat} (h : IsS92 w0 W g f0 f1 f2) (hw : W.grownBy W1 row) (hne : some g ≠ row) : IsS92 w0 W1 g f0 f1 f2 := by
  obtain ⟨hb, hg⟩ := h
  exact ⟨blk_grown hb hw hne, hg⟩
theorem IsS92.below {w0 W : World} {g : Nat} {f0 : ByteArray} {f1 : Int} {f2 : Bool} {W1 : World} (h : IsS92 w0 W g f0 f1 f2) (hw : Below W.heap.size W W1) : IsS92 w0 W1 g f0 f1 f2 := h.grown (grown_of_below hw none) (by simp)
theorem IsS92.alloc {w0 W : World} {g : Nat} {f0 : ByteArray} {f1 : Int} {f2 : Bool} (h : IsS92 w0 W g f0 f1 f2) (o : Obj) : IsS92 w0 (W.alloc o) g f0 f1 f2 := h.below (below_alloc (Below.refl _ _) o)
theorem IsS92.drewN {w0 W : World} {g : Nat} {f0 : ByteArray} {f1 : Int} {f2 : Bool} (h : IsS92 w0 W g f0 f1 f2) (m : Nat) : IsS92 w0 (W.drewN m) g f0 f1 f2 := h
theorem IsS92.drew {w0 W : World} {g : Nat} {f0 : ByteArray} {f1 : Int} {f2 : Bool} (h : IsS92 w0 W g f0 f1 f2) : IsS92 w0 W.drew g f0 f1 f2 := h
theorem IsS92.at_ {w0 W : World} {g : Nat} {f0 : ByteArray} {f1 : Int} {f2 : Bool} {w' : World} {m : Nat} (hq : W.drewN m = w') (h : IsS92 w0 W g f0 f1 f2) : IsS92 w0 w' g f0 f1 f2 := by subst hq; exact IsS92.drewN h m
theorem IsS92.apart {w0 W : World} {g : Nat} {f0 : ByteArray} {f1 : Int} {f2 : Bool} {α : Type} {d : Kd α} {e : Nat} {base : Nat} {ok : Nat → Prop} {v : Value} {xs : List α} (h : IsS92 w0 W g f0 f1 f2) (ho : d.R e W base ok v xs) (ht : ∀ q, q ∈ e :: d.E → q ≠ 92) : d.R e W base (fun k => ok k ∧ k ≠ g) v xs := by
  obtain ⟨hb, hg⟩ := h
  exact Kd.R_types ho hb ht
theorem IsS92.own_ne {w0 W : World} {g : Nat} {f0 : ByteArray} {f1 : Int} {f2 : Bool} {α : Type} {d : Kd α} {e : Nat} {base : Nat} {ok : Nat → Prop} {v : Value} {xs : List α} (h : IsS92 w0 W g f0 f1 f2) (ho : d.R e W base ok v xs) (ht : e ≠ 92) : some g ≠ v.ownBlock := by
  obtain ⟨hb, hg⟩ := h
  exact Kd.R_ne ho hb ht
theorem IsS92.lt {w0 W : World} {g : Nat} {f0 : ByteArray} {f1 : Int} {f2 : Bool} (h : IsS92 w0 W g f0 f1 f2) : g < W.heap.size := by
  obtain ⟨hb, hg⟩ := h
  exact blk_lt hb
theorem IsS92.ge {w0 W : World} {g : Nat} {f0 : ByteArray} {f1 : Int} {f2 : Bool} (h : IsS92 w0 W g f0 f1 f2) : w0.heap.size ≤ g := by
  obtain ⟨hb, hg⟩ := h
  exact hg
theorem IsS92.ne_blk {w0 W : World} {g : Nat} {f0 : ByteArray} {f1 : Int} {f2 : Bool} {a : Nat} {cs : Array Value} {t : TypeId} {fr : Nat × Nat} (h : IsS92 w0 W g f0 f1 f2) (hb2 : W.heap[a]? = some (.cells cs t fr)) (ht : t ≠ 92) : g ≠ a := by
  obtain ⟨hb, hg⟩ := h
  rintro rfl
  rw [hb] at hb2
  injection hb2 with hb2
  injection hb2 with _ ht2
  exact ht ht2.symm
theorem IsS92.far {w0 W : World} {g : Nat} {f0 : ByteArray} {f1 : Int} {f2 : Bool} {p : Addr} (h : IsS92 w0 W g f0 f1 f2) (hne : g ≠ p.block) (u : Value) : IsS92 w0 (W.setCell p u) g f0 f1 f2 := by
  obtain ⟨hb, hg⟩ := h
  exact ⟨blk_far hb hne u, hg⟩
theorem cellS92_0 {W : World} {g : Nat} {f0 : ByteArray} {f1 : Int} {f2 : Bool} (h : W.heap[g]? = some (.cells #[.string f0, .int .i64 f1, .bool f2] 92 (0, 0))) : W.cell? ⟨g, 0, none⟩ = some (.string f0) := (blk_cell h 0).trans rfl
theorem IsS92.set_0 {w0 W : World} {g : Nat} {f0 : ByteArray} {f1 : Int} {f2 : Bool} (h : IsS92 w0 W g f0 f1 f2) (x : ByteArray) : IsS92 w0 (W.setCell ⟨g, 0, none⟩ (.string x)) g x f1 f2 := by
  obtain ⟨hb, hg⟩ := h
  exact ⟨by simpa using blk_set hb 0 (.string x), hg⟩
theorem cellS92_1 {W : World} {g : Nat} {f0 : ByteArray} {f1 : Int} {f2 : Bool} (h : W.heap[g]? = some (.cells #[.string f0, .int .i64 f1, .bool f2] 92 (0, 0))) : W.cell? ⟨g, 1, none⟩ = some (.int .i64 f1) := (blk_cell h 1).trans rfl
theorem IsS92.set_1 {w0 W : World} {g : Nat} {f0 : ByteArray} {f1 : Int} {f2 : Bool} (h : IsS92 w0 W g f0 f1 f2) (x : Int) : IsS92 w0 (W.setCell ⟨g, 1, none⟩ (.int .i64 x)) g f0 x f2 := by
  obtain ⟨hb, hg⟩ := h
  exact ⟨by simpa using blk_set hb 1 (.int .i64 x), hg⟩
theorem cellS92_2 {W : World} {g : Nat} {f0 : ByteArray} {f1 : Int} {f2 : Bool} (h : W.heap[g]? = some (.cells #[.string f0, .int .i64 f1, .bool f2] 92 (0, 0))) : W.cell? ⟨g, 2, none⟩ = some (.bool f2) := (blk_cell h 2).trans rfl
theorem IsS92.set_2 {w0 W : World} {g : Nat} {f0 : ByteArray} {f1 : Int} {f2 : Bool} (h : IsS92 w0 W g f0 f1 f2) (x : Bool) : IsS92 w0 (W.setCell ⟨g, 2, none⟩ (.bool x)) g f0 f1 x := by
  obtain ⟨hb, hg⟩ := h
  exact ⟨by simpa using blk_set hb 2 (.bool x), hg⟩
theorem IsS92.new (w0 W : World) (f0 : ByteArray) (f1 : Int) (f2 : Bool) (hB : Below w0.heap.size w0 W) : IsS92 w0 (W.alloc (.cells #[.string f0, .int .i64 f1, .bool f2] 92)) W.heap.size f0 f1 f2 := ⟨by simpa using heap_alloc_new W _, hB.size⟩
def impl_reader_num.f (k : Nat) (s0_0 : ByteArray) (s0_1 : Int) (s0_2 : Bool) : Option (Int × ByteArray × Int × Bool) :=
 (impl_GetNum.f k s0_0 s0_1).bind fun x => some (x.1, s0_0, x.2.1, s0_2 || decide (x.2.2 ≠ 0))
def impl_reader_num.T1 : Bool × List (List Nat × List Nat) := (true, [([], []), ([0], [0]), ([1], [1]), ([2], [2]), ([], []), ([4], [4]), ([5], [5]), ([6], [6]), ([3, 7], [3, 7]), ([], []), ([9, 8, 8, 0, 1, 2, 3, 4, 5, 6, 7, 8, 9], [8, 9])])
def impl_reader_num.B1 : List Nat := [0, 1, 3, 7, 0, 16, 48, 112, 255, 0, 1023]
theorem impl_reader_num.tab1 : rtab .any (opsOf Try.f85 1) = impl_reader_num.T1 := by kernel_rfl
theorem impl_reader_num.bits1 : waitsOk impl_reader_num.T1.2 impl_reader_num.B1 = true := by kernel_rfl
theorem impl_reader_num.gen {P : Program} {c : Code} {Q : Exit → Act → World → Prop} {a : Act} {w0 w W : World} {g gb : Nat} {t : ByteArray} {i : Int} {d : Bool} {u : Int} {x2 x3 : Int} (hI : IsS92 w0 W g t i d) (hb : W.heap[gb]? = some (.cells #[.int .i64 u, .int .i64 x2, .int .i64 x3] 101 (0, 0))) (hB : Below w0.heap.size w0 W) (hK : KeepBut w W g none)
  (k : ∀ W1, Aside0 (IsS92 w0 W1 g t i d) → Aside0 (Below w0.heap.size w0 W1) → Aside0 (KeepBut w W1 g none) → W1.cell? ⟨g, 1, none⟩ = some (.int .i64 i) → W1.cell? ⟨g, 2, none⟩ = some (.bool d) → W1.frozen? ⟨g, 1, none⟩ = false → W1.frozen? ⟨g, 2, none⟩ = false → W1.cell? ⟨gb, 0, none⟩ = some (.int .i64 u) → W1.cell? ⟨gb, 1, none⟩ = some (.int .i64 x2) → W1.cell? ⟨gb, 2, none⟩ = some (.int .i64 x3) → Code.wp P c Q a W1) : Code.wp P c Q a W := by
 have h0 := hI
 obtain ⟨hg, hge⟩ := h0
 exact k W ⟨hI⟩ ⟨hB⟩ ⟨hK⟩ (cellS92_1 hg) (cellS92_2 hg) (blk_frozen hg 1) (blk_frozen hg 2) ((blk_cell hb 0).trans rfl) ((blk_cell hb 1).trans rfl) ((blk_cell hb 2).trans rfl)
def impl_reader_num.bq0 : Array Bool := #[true, true, true, true, true, true, true, true, true, true, false]
set_option maxHeartbeats 8000000 in
set_option maxRecDepth 100000 in
theorem impl_reader_num.calls (k : Nat) (g : Nat) (s0_0 : ByteArray) (s0_1 : Int) (s0_2 : Bool) (r1 : Int) (r2 : ByteArray) (r3 : Int) (r4 : Bool) (w0 w : World) (hI : IsS92 w0 w g s0_0 s0_1 s0_2) (hB : Below w0.heap.size w0 w) (h : impl_reader_num.f k s0_0 s0_1 s0_2 = some (r1, r2, r3, r4)) :
  Calls Try.prog 85 #[.pointer (some ⟨g, 0, none⟩)] w fun e w' => e = .returned (.int .i64 r1) ∧ IsS92 w0 w' g r2 r3 r4 ∧ Below w0.heap.size w0 w' ∧ KeepBut w w' g none := by
 have hu101 := Try.underlying101
 have HI0 := Aside0.mk hI
 have HK := Aside0.mk (KeepBut.refl w g none)
 have HL := Aside0.mk hB.size
 clear hI
 have HW0 := Aside0.mk hB.size
 have HB := Aside0.mk hB
 clear hB
 replace h := Option.bind_eq_some_iff.mp h
 obtain ⟨⟨t102, t103, t104⟩, A20, h⟩ := h
 have A2 := Aside0.mk A20
 clear A20
 simp only [Option.some.injEq, Prod.mk.injEq] at h
 obtain ⟨rfl, rfl, rfl, h4⟩ := h
 have H4 := Aside0.mk h4
 clear h4
 go_enter Try.func85, Try.ntmps85
 try go_wp2
 have n0_ := Aside0.mk (IsS92.drew HI0.out)
 have n1_ := Aside0.mk (keep_drew HK.out)
 have n2_ := Aside0.mk (below_drew1 HB.out)
 clear HI0
 clear HK
 clear HB
 have HI0 := n0_
 have HK := n1_
 have HB := n2_
 clear n0_ n1_ n2_
 refine start_ (n := 11) (S := fun w' => w'.cell? ⟨g, 0, none⟩ = some (.string s0_0) ∧ w'.cell? ⟨g, 1, none⟩ = some (.int .i64 s0_1) ∧ w'.cell? ⟨g, 2, none⟩ = some (.bool s0_2)) (ds := []) #[false, false, false, false, false, false, false, false, false, false, false] (by kernel_rfl) rfl rfl ⟨(blk_cell (Aside0.mk HI0.out.1).out 0).trans rfl, (blk_cell (Aside0.mk HI0.out.1).out 1).trans rfl, (blk_cell (Aside0.mk HI0.out.1).out 2).trans rfl⟩ (fun hHeld => ?_); refine with_tabW impl_reader_num.tab1 impl_reader_num.bits1 (fun HT_ HW_ => ?_)
 generalize w.drew = w4 at HI0 HK HB hHeld ⊢
 refine pure_ (i := 0) (N := some 4) (v := ?_) (a' := ?_) #[true, false, false, false, false, false, false, false, false, false, false] rfl rfl (any_of HT_.out (by kernel_rfl)) (fun _ _ _ h => h) (Or.inl ⟨by rfl, ?_⟩) ?_ ?_
 rotate_left
 ·intro w'
  go_simp
  with_reducible rfl
 rotate_left
 ·simp only [Act.put, sI, sZ, sS, i64_w, i32_w]
  rfl
 refine pure_ (i := 1) (N := some 5) (v := ?_) (a' := ?_) #[true, true, false, false, false, false, false, false, false, false, false] rfl rfl (any_of HT_.out (by kernel_rfl)) (fun _ _ _ h => h) (Or.inl ⟨by rfl, ?_⟩) ?_ ?_
 rotate_left
 ·intro w'
  go_simp
  with_reducible rfl
 rotate_left
 ·simp only [Act.put, sI, sZ, sS, i64_w, i32_w]
  rfl
 refine pure_ (i := 2) (N := some 6) (v := ?_) (a' := ?_) #[true, true, true, false, false, false, false, false, false, false, false] rfl rfl (any_of HT_.out (by kernel_rfl)) (fun _ _ _ h => h) (Or.inl ⟨by rfl, ?_⟩) ?_ ?_
 rotate_left
 ·intro w'
  go_simp
  with_reducible rfl
 rotate_left
 ·simp only [Act.put, sI, sZ, sS, i64_w, i32_w]
  rfl
 refine pure_ (i := 4) (N := some 8) (v := ?_) (a' := ?_) #[true, true, true, false, true, false, false, false, false, false, false] rfl rfl (any_of HT_.out (by kernel_rfl)) (fun _ _ _ h => h) (Or.inl ⟨by rfl, ?_⟩) ?_ ?_
 rotate_left
 ·intro w'
  go_simp
  with_reducible rfl
 rotate_left
 ·simp only [Act.put, sI, sZ, sS, i64_w, i32_w]
  rfl
 refine pure_ (i := 5) (N := some 9) (v := ?_) (a' := ?_) #[true, true, true, false, true, true, false, false, false, false, false] rfl rfl (any_of HT_.out (by kernel_rfl)) (fun _ _ _ h => h) (Or.inl ⟨by rfl, ?_⟩) ?_ ?_
 rotate_left
 ·intro w'
  go_simp
  with_reducible rfl
 rotate_left
 ·simp only [Act.put, sI, sZ, sS, i64_w, i32_w]
  rfl
 refine pure_ (i := 6) (N := some 10) (v := ?_) (a' := ?_) #[true, true, true, false, true, true, true, false, false, false, false] rfl rfl (any_of HT_.out (by kernel_rfl)) (fun _ _ _ h => h) (Or.inl ⟨by rfl, ?_⟩) ?_ ?_
 rotate_left
 ·intro w'
  go_simp
  with_reducible rfl
 rotate_left
 ·simp only [Act.put, sI, sZ, sS, i64_w, i32_w]
  rfl
 refine take_ (i := 3) (N := some 7) (v := ?_) (a' := ?_) #[true, true, true, true, true, true, true, false, false, false, false] rfl rfl (take_ofW HT_.out HW_.out (by kernel_rfl)) (fun _ _ _ h => h) (Or.inl ⟨by rfl, ?_⟩) hHeld ?_ ?_
 rotate_left
 ·rintro w' ⟨s0, s1, s2⟩
  go_simp
  with_reducible rfl
 rotate_left
 ·simp only [Act.put, sI, sZ, sS, i64_w, i32_w]
  rfl
 refine take_ (i := 7) (N := some 11) (v := ?_) (a' := ?_) #[true, true, true, true, true, true, true, true, false, false, false] rfl rfl (take_ofW HT_.out HW_.out (by kernel_rfl)) (fun _ _ _ h => h) (Or.inl ⟨by rfl, ?_⟩) hHeld ?_ ?_
 rotate_left
 ·rintro w' ⟨s0, s1, s2⟩
  go_simp
  with_reducible rfl
 rotate_left
 ·simp only [Act.put, sI, sZ, sS, i64_w, i32_w]
  rfl
 refine join_ (σ := Nat) 1 bq0 (fun s_ => [(12, .agg #[.int .i64 t102, .int .i64 t103, .int .i64 t104]), (3, .pointer (some ⟨s_, 0, none⟩))]) (fun s_ w' => (w'.cell? ⟨g, 0, none⟩ = some (.string s0_0) ∧ w'.cell? ⟨g, 1, none⟩ = some (.int .i64 s0_1) ∧ w'.cell? ⟨g, 2, none⟩ = some (.bool s0_2)) ∧ (w'.heap[s_]? = some (.cells #[.int .i64 0, .int .i64 0, .int .i64 0] 101 (0, 0))) ∧ (w.heap.size ≤ s_) ∧ (w0.heap.size ≤ s_) ∧ (g ≠ s_) ∧ (s_ ≠ g) ∧ (IsS92 w0 w' g s0_0 s0_1 s0_2) ∧ (KeepBut w w' g none) ∧ (Below w0.heap.size w0 w')) ?_ ?_
 rotate_left
 ·intro hCont
  refine two_ (i := 8) (j := 9) (Ni := some 12) (Nj := some 3) #[true, true, true, true, true, true, true, true, true, false, false] #[true, true, true, true, true, true, true, true, false, true, false] rfl rfl rfl rfl (two_of HT_.out (by kernel_rfl)) (by decide) (by decide) (fun K hK => ?_) (fun K hK => ?_)
  ·skip
   refine goes_ Try.func121 (by kernel_rfl) rfl #[.string s0_0, .int .i64 s0_1] (by rfl) rfl rfl (by (try simp only [mA, mC, mN]); first | done | rfl | (simp only [List.length_drop, List.length_take]; rfl)) ?_
   with_reducible refine (impl_GetNum.calls k s0_0 s0_1 t102 t103 t104 _ A2.out).mono ?_
   rintro e w5 ⟨rfl, hb⟩
   refine ⟨_, rfl, ?_⟩
   have n0_ := Aside0.mk (IsS92.below (by repeat (first | (with_reducible first | exact HI0.out | apply IsS92.alloc | apply IsS92.drewN | apply IsS92.drew | apply IsS92.set_0 | apply IsS92.set_1 | apply IsS92.set_2) | exact HI0.out | exact (default : Bool))) hb)
   have n1_ := Aside0.mk (KeepBut.trans (by repeat (first | (with_reducible first | exact HK.out | apply KeepBut.set_ | apply keep_drewN | apply keep_drew | apply keep_alloc) | exact HK.out)) (KeepBut.of_below hb g none) (.inl rfl))
   have n2_ := Aside0.mk (below_step (by repeat (first | (with_reducible first | exact HB.out | apply below_alloc | apply pw_below_drewN | apply below_drew1 | refine below_set ?_ (IsS92.ge HI0.out)) | exact HB.out)) hb)
   clear HI0
   clear HK
   clear HB
   have HI0 := n0_
   have HK := n1_
   have HB := n2_
   clear n0_ n1_ n2_
   (try clear hb)
   (try clear hb2)
   (try clear hk)
   (try clear hi)
   refine hK.out _ _ ⟨(blk_cell (Aside0.mk HI0.out.1).out 0).trans rfl, (blk_cell (Aside0.mk HI0.out.1).out 1).trans rfl, (blk_cell (Aside0.mk HI0.out.1).out 2).trans rfl⟩ (fun hHeld => ?_)
   clear hK K
   refine norm_ (a' := ?_) ?_ ?_
   rotate_left
   ·show Act.put _ (some 12) _ = _
    simp only [Act.put, sI, sZ, sS, i64_w, i32_w]
    rfl
   refine one_ (i := 9) (N := some 3) bq0 rfl rfl (one_of HT_.out (by kernel_rfl)) (by decide) (fun K hK => ?_)
   refine box_step ?hg (N := 3) ?hd (cs := #[.int .i64 0, .int .i64 0, .int .i64 0]) (t := 101) ?hr ?_; (case hd => rfl); (case hg => rfl); (case hr => first | (go_simp; done) | (go_simp; rfl))
   intro gb105 hg w6 hbox hb
   have n0_ := Aside0.mk (IsS92.below (by repeat (first | (with_reducible first | exact HI0.out | apply IsS92.alloc | apply IsS92.drewN | apply IsS92.drew | apply IsS92.set_0 | apply IsS92.set_1 | apply IsS92.set_2) | exact HI0.out | exact (default : Bool))) hb)
   have n1_ := Aside0.mk (KeepBut.trans (by repeat (first | (with_reducible first | exact HK.out | apply KeepBut.set_ | apply keep_drewN | apply keep_drew | apply keep_alloc) | exact HK.out)) (KeepBut.of_below hb g none) (.inl rfl))
   have n2_ := Aside0.mk (below_step (by repeat (first | (with_reducible first | exact HB.out | apply below_alloc | apply pw_below_drewN | apply below_drew1 | refine below_set ?_ (IsS92.ge HI0.out)) | exact HB.out)) hb)
   have n3_ := Aside0.mk (hbox)
   have n4_ := Aside0.mk ((by rw [hg]; exact (keep_size (w := w) (g := g) (row := none) (by repeat (first | (with_reducible first | exact HK.out | apply KeepBut.set_ | apply keep_drewN | apply keep_drew | apply keep_alloc) | exact HK.out))) : w.heap.size ≤ gb105))
   have n5_ := Aside0.mk ((Nat.le_trans HW0.out (by rw [hg]; exact (keep_size (w := w) (g := g) (row := none) (by repeat (first | (with_reducible first | exact HK.out | apply KeepBut.set_ | apply keep_drewN | apply keep_drew | apply keep_alloc) | exact HK.out))) : w.heap.size ≤ gb105) : w0.heap.size ≤ gb105))
   have n6_ := Aside0.mk ((by rw [hg]; exact Nat.ne_of_lt (IsS92.lt (show IsS92 w0 _ g s0_0 s0_1 s0_2 from by repeat (first | (with_reducible first | exact HI0.out | apply IsS92.alloc | apply IsS92.drewN | apply IsS92.drew | apply IsS92.set_0 | apply IsS92.set_1 | apply IsS92.set_2) | exact HI0.out | exact (default : Bool)))) : g ≠ gb105))
   have n7_ := Aside0.mk ((by rw [hg]; exact Nat.ne_of_gt (IsS92.lt (show IsS92 w0 _ g s0_0 s0_1 s0_2 from by repeat (first | (with_reducible first | exact HI0.out | apply IsS92.alloc | apply IsS92.drewN | apply IsS92.drew | apply IsS92.set_0 | apply IsS92.set_1 | apply IsS92.set_2) | exact HI0.out | exact (default : Bool)))) : gb105 ≠ g))
   clear HI0
   clear HK
   clear HB
   have HI0 := n0_
   have HK := n1_
   have HB := n2_
   have BK105 := n3_
   have GW105 := n4_
   have GE105 := n5_
   have NB0_105 := n6_
   have NB105_0 := n7_
   clear n0_ n1_ n2_ n3_ n4_ n5_ n6_ n7_
   clear hb hbox hg
   refine hK.out _ _ ⟨(blk_cell (Aside0.mk HI0.out.1).out 0).trans rfl, (blk_cell (Aside0.mk HI0.out.1).out 1).trans rfl, (blk_cell (Aside0.mk HI0.out.1).out 2).trans rfl⟩ (fun hHeld => ?_)
   clear hK K
   refine norm_ (a' := ?_) ?_ ?_
   rotate_left
   ·show Act.put _ (some 3) _ = _
    simp only [Act.put, sI, sZ, sS, i64_w, i32_w]
    rfl
   exact norm_ (by simp only [putAll, Act.put, sI, sZ, sS]) (hCont (gb105) _ ⟨hHeld, (by (with_reducible repeat (first | refine blk_drewN ?_ _ | refine blk_drew ?_ | refine blk_alloc ?_ _)); exact BK105.out), GW105.out, GE105.out, NB0_105.out, NB105_0.out, (by repeat (first | (with_reducible first | exact HI0.out | apply IsS92.alloc | apply IsS92.drewN | apply IsS92.drew | apply IsS92.set_0 | apply IsS92.set_1 | apply IsS92.set_2 | apply IsS92.far (hne := NB0_105.out)) | exact HI0.out | exact (default : Bool))), (by repeat (first | (with_reducible first | exact HK.out | apply KeepBut.set_ | apply keep_drewN | apply keep_drew | apply keep_alloc | refine keep_far ?_ GW105.out _) | exact HK.out)), (by repeat (first | (with_reducible first | exact HB.out | apply below_alloc | apply pw_below_drewN | apply below_drew1 | refine below_set ?_ (IsS92.ge HI0.out) | refine below_set ?_ GE105.out) | exact HB.out))⟩)
  ·skip
   refine box_step ?hg (N := 3) ?hd (cs := #[.int .i64 0, .int .i64 0, .int .i64 0]) (t := 101) ?hr ?_; (case hd => rfl); (case hg => rfl); (case hr => first | (go_simp; done) | (go_simp; rfl))
   intro gb105 hg w5 hbox hb
   have n0_ := Aside0.mk (IsS92.below (by repeat (first | (with_reducible first | exact HI0.out | apply IsS92.alloc | apply IsS92.drewN | apply IsS92.drew | apply IsS92.set_0 | apply IsS92.set_1 | apply IsS92.set_2) | exact HI0.out | exact (default : Bool))) hb)
   have n1_ := Aside0.mk (KeepBut.trans (by repeat (first | (with_reducible first | exact HK.out | apply KeepBut.set_ | apply keep_drewN | apply keep_drew | apply keep_alloc) | exact HK.out)) (KeepBut.of_below hb g none) (.inl rfl))
   have n2_ := Aside0.mk (below_step (by repeat (first | (with_reducible first | exact HB.out | apply below_alloc | apply pw_below_drewN | apply below_drew1 | refine below_set ?_ (IsS92.ge HI0.out)) | exact HB.out)) hb)
   have n3_ := Aside0.mk (hbox)
   have n4_ := Aside0.mk ((by rw [hg]; exact (keep_size (w := w) (g := g) (row := none) (by repeat (first | (with_reducible first | exact HK.out | apply KeepBut.set_ | apply keep_drewN | apply keep_drew | apply keep_alloc) | exact HK.out))) : w.heap.size ≤ gb105))
   have n5_ := Aside0.mk ((Nat.le_trans HW0.out (by rw [hg]; exact (keep_size (w := w) (g := g) (row := none) (by repeat (first | (with_reducible first | exact HK.out | apply KeepBut.set_ | apply keep_drewN | apply keep_drew | apply keep_alloc) | exact HK.out))) : w.heap.size ≤ gb105) : w0.heap.size ≤ gb105))
   have n6_ := Aside0.mk ((by rw [hg]; exact Nat.ne_of_lt (IsS92.lt (show IsS92 w0 _ g s0_0 s0_1 s0_2 from by repeat (first | (with_reducible first | exact HI0.out | apply IsS92.alloc | apply IsS92.drewN | apply IsS92.drew | apply IsS92.set_0 | apply IsS92.set_1 | apply IsS92.set_2) | exact HI0.out | exact (default : Bool)))) : g ≠ gb105))
   have n7_ := Aside0.mk ((by rw [hg]; exact Nat.ne_of_gt (IsS92.lt (show IsS92 w0 _ g s0_0 s0_1 s0_2 from by repeat (first | (with_reducible first | exact HI0.out | apply IsS92.alloc | apply IsS92.drewN | apply IsS92.drew | apply IsS92.set_0 | apply IsS92.set_1 | apply IsS92.set_2) | exact HI0.out | exact (default : Bool)))) : gb105 ≠ g))
   clear HI0
   clear HK
   clear HB
   have HI0 := n0_
   have HK := n1_
   have HB := n2_
   have BK105 := n3_
   have GW105 := n4_
   have GE105 := n5_
   have NB0_105 := n6_
   have NB105_0 := n7_
   clear n0_ n1_ n2_ n3_ n4_ n5_ n6_ n7_
   clear hb hbox hg
   refine hK.out _ _ ⟨(blk_cell (Aside0.mk HI0.out.1).out 0).trans rfl, (blk_cell (Aside0.mk HI0.out.1).out 1).trans rfl, (blk_cell (Aside0.mk HI0.out.1).out 2).trans rfl⟩ (fun hHeld => ?_)
   clear hK K
   refine norm_ (a' := ?_) ?_ ?_
   rotate_left
   ·show Act.put _ (some 3) _ = _
    simp only [Act.put, sI, sZ, sS, i64_w, i32_w]
    rfl
   refine one_ (i := 8) (N := some 12) bq0 rfl rfl (one_of HT_.out (by kernel_rfl)) (by decide) (fun K hK => ?_)
   refine goes_ Try.func121 (by kernel_rfl) rfl #[.string s0_0, .int .i64 s0_1] (by rfl) rfl rfl (by (try simp only [mA, mC, mN]); first | done | rfl | (simp only [List.length_drop, List.length_take]; rfl)) ?_
   with_reducible refine (impl_GetNum.calls k s0_0 s0_1 t102 t103 t104 _ A2.out).mono ?_
   rintro e w6 ⟨rfl, hb⟩
   refine ⟨_, rfl, ?_⟩
   have n0_ := Aside0.mk (IsS92.below (by repeat (first | (with_reducible first | exact HI0.out | apply IsS92.alloc | apply IsS92.drewN | apply IsS92.drew | apply IsS92.set_0 | apply IsS92.set_1 | apply IsS92.set_2 | apply IsS92.far (hne := NB0_105.out)) | exact HI0.out | exact (default : Bool))) hb)
   have n1_ := Aside0.mk (blk_below (g := gb105) (by (with_reducible repeat (first | refine blk_drewN ?_ _ | refine blk_drew ?_ | refine blk_alloc ?_ _)); exact BK105.out) hb)
   have n2_ := Aside0.mk (KeepBut.trans (by repeat (first | (with_reducible first | exact HK.out | apply KeepBut.set_ | apply keep_drewN | apply keep_drew | apply keep_alloc | refine keep_far ?_ GW105.out _) | exact HK.out)) (KeepBut.of_below hb g none) (.inl rfl))
   have n3_ := Aside0.mk (below_step (by repeat (first | (with_reducible first | exact HB.out | apply below_alloc | apply pw_below_drewN | apply below_drew1 | refine below_set ?_ (IsS92.ge HI0.out) | refine below_set ?_ GE105.out) | exact HB.out)) hb)
   clear HI0
   clear BK105
   clear HK
   clear HB
   have HI0 := n0_
   have BK105 := n1_
   have HK := n2_
   have HB := n3_
   clear n0_ n1_ n2_ n3_
   (try clear hb)
   (try clear hb2)
   (try clear hk)
   (try clear hi)
   refine hK.out _ _ ⟨(blk_cell (Aside0.mk HI0.out.1).out 0).trans rfl, (blk_cell (Aside0.mk HI0.out.1).out 1).trans rfl, (blk_cell (Aside0.mk HI0.out.1).out 2).trans rfl⟩ (fun hHeld => ?_)
   clear hK K
   refine norm_ (a' := ?_) ?_ ?_
   rotate_left
   ·show Act.put _ (some 12) _ = _
    simp only [Act.put, sI, sZ, sS, i64_w, i32_w]
    rfl
   exact norm_ (by simp only [putAll, Act.put, sI, sZ, sS]) (hCont (gb105) _ ⟨hHeld, (by (with_reducible repeat (first | refine blk_drewN ?_ _ | refine blk_drew ?_ | refine blk_alloc ?_ _)); exact BK105.out), GW105.out, GE105.out, NB0_105.out, NB105_0.out, (by repeat (first | (with_reducible first | exact HI0.out | apply IsS92.alloc | apply IsS92.drewN | apply IsS92.drew | apply IsS92.set_0 | apply IsS92.set_1 | apply IsS92.set_2 | apply IsS92.far (hne := NB0_105.out)) | exact HI0.out | exact (default : Bool))), (by repeat (first | (with_reducible first | exact HK.out | apply KeepBut.set_ | apply keep_drewN | apply keep_drew | apply keep_alloc | refine keep_far ?_ GW105.out _) | exact HK.out)), (by repeat (first | (with_reducible first | exact HB.out | apply below_alloc | apply pw_below_drewN | apply below_drew1 | refine below_set ?_ (IsS92.ge HI0.out) | refine below_set ?_ GE105.out) | exact HB.out))⟩)
 rintro gb105 w7 ⟨hS_, h0_, h1_, h2_, h3_, h4_, h5_, h6_, h7_⟩
 have n0_ : Aside0 (w7.heap[gb105]? = some (.cells #[.int .i64 0, .int .i64 0, .int .i64 0] 101 (0, 0))) := ⟨h0_⟩
 have n1_ : Aside0 (w.heap.size ≤ gb105) := ⟨h1_⟩
 have n2_ : Aside0 (w0.heap.size ≤ gb105) := ⟨h2_⟩
 have n3_ : Aside0 (g ≠ gb105) := ⟨h3_⟩
 have n4_ : Aside0 (gb105 ≠ g) := ⟨h4_⟩
 have n5_ : Aside0 (IsS92 w0 w7 g s0_0 s0_1 s0_2) := ⟨h5_⟩
 have n6_ : Aside0 (KeepBut w w7 g none) := ⟨h6_⟩
 have n7_ : Aside0 (Below w0.heap.size w0 w7) := ⟨h7_⟩
 clear HI0
 clear HK
 clear HB
 clear h0_ h1_ h2_ h3_ h4_ h5_ h6_ h7_
 have BK105 := n0_
 have GW105 := n1_
 have GE105 := n2_
 have NB0_105 := n3_
 have NB105_0 := n4_
 have HI0 := n5_
 have HK := n6_
 have HB := n7_
 clear n0_ n1_ n2_ n3_ n4_ n5_ n6_ n7_
 have hHeld : w7.cell? ⟨g, 0, none⟩ = some (.string s0_0) ∧ w7.cell? ⟨g, 1, none⟩ = some (.int .i64 s0_1) ∧ w7.cell? ⟨g, 2, none⟩ = some (.bool s0_2) := hS_
 refine norm_ (a' := ?_) ?_ ?_
 rotate_left
 ·simp only [putAll, Act.put, sI, sZ, sS]
  rfl
 refine one_ (i := 10) (N := none) #[true, true, true, true, true, true, true, true, true, true, true] rfl rfl (one_of HT_.out (by kernel_rfl)) (by decide) (fun K hK => ?_)
 have hs8 : w7.cell? ⟨gb105, 0, none⟩ = some (.int .i64 0) := (blk_cell BK105.out 0).trans rfl
 have hfs8 := blk_frozen BK105.out 0
 have hs9 : w7.cell? ⟨gb105, 1, none⟩ = some (.int .i64 0) := (blk_cell BK105.out 1).trans rfl
 have hfs9 := blk_frozen BK105.out 1
 have hs10 : w7.cell? ⟨gb105, 2, none⟩ = some (.int .i64 0) := (blk_cell BK105.out 2).trans rfl
 have hfs10 := blk_frozen BK105.out 2
 refine skip_ (w1 := ?_) (by rfl) rfl ?_ ?_
 rotate_left
 ·go_simp
  rfl
 refine hK.out _ _ ⟨((cell_far (p := ⟨gb105, _, none⟩) NB0_105.out _).trans (((cell_far (p := ⟨gb105, _, none⟩) NB0_105.out _).trans (((cell_far (p := ⟨gb105, _, none⟩) NB0_105.out _).trans (hHeld.1)))))), ((cell_far (p := ⟨gb105, _, none⟩) NB0_105.out _).trans (((cell_far (p := ⟨gb105, _, none⟩) NB0_105.out _).trans (((cell_far (p := ⟨gb105, _, none⟩) NB0_105.out _).trans (hHeld.2.1)))))), ((cell_far (p := ⟨gb105, _, none⟩) NB0_105.out _).trans (((cell_far (p := ⟨gb105, _, none⟩) NB0_105.out _).trans (((cell_far (p := ⟨gb105, _, none⟩) NB0_105.out _).trans (hHeld.2.2))))))⟩ (fun hHeld => ?_)
 clear hK K
 refine done_ (done_of HT_.out (by kernel_rfl)) ?_
 obtain ⟨HGz11, hgz11⟩ := HI0.out
 have hcz11_0 := cellS92_0 HGz11
 have hcz11_1 := cellS92_1 HGz11
 have hcz11_2 := cellS92_2 HGz11
 have hfz11_0 := blk_frozen HGz11 0
 have hfz11_1 := blk_frozen HGz11 1
 have hfz11_2 := blk_frozen HGz11 2
 clear HGz11 hgz11
 try go_wp2
 refine impl_reader_num.gen (w0 := w0) (w := w) (g := g) (gb := gb105) (t := s0_0) (i := s0_1) (d := s0_2) (u := t102) (x2 := t103) (x3 := t104) (((HI0.out.far NB0_105.out _).far NB0_105.out _).far NB0_105.out _) (blk_put (blk_put (blk_put BK105.out 0 _ rfl) 1 _ rfl) 2 _ rfl) (below_set (below_set (below_set HB.out GE105.out) GE105.out) GE105.out) (keep_far (keep_far (keep_far HK.out GW105.out _) GW105.out _) GW105.out _) ?_
 clear hcz11_0 hcz11_1 hcz11_2 hfz11_0 hfz11_1 hfz11_2 hHeld HI0 HK HB BK105
 (try clear hs8 hfs8 hs9 hfs9 hs10 hfs10)
 (try clear hS_)
 (try clear HT_ HW_)
 intro W0 HI0 HB HK hc1 hc2 hf1 hf2 hx0 hx1 hx2
 have hne := NB0_105.out
 have hne' := NB105_0.out
 try go_wp2
 have hne1 : (⟨g, 1, none⟩ : Addr) ≠ ⟨gb105, 2, none⟩ := fun h => hne (congrArg Addr.block h)
 (try clear hHeld)
 cases s0_2 with
 | true =>
  go_region
  all_goals go_wp2
  all_goals
   go_ret
   have e := H4.out
   rw [Bool.true_or] at e
   subst e
   exact ⟨rfl, ((HI0.out.set_1 t103).set_2 true).drew, below_drew1 (below_set (below_set HB.out HI0.out.ge) HI0.out.ge), keep_drew (KeepBut.set_ (KeepBut.set_ HK.out 1 _) 2 _)⟩
 | false =>
  by_cases hc : t104 = 0
  ·subst hc
   go_region
   all_goals go_wp2
   all_goals
    go_ret
    have e := H4.out
    rw [Bool.false_or, decide_eq_false (fun h => h rfl)] at e
    subst e
    exact ⟨rfl, ((HI0.out.set_1 t103).set_2 false).drew, below_drew1 (below_set (below_set HB.out HI0.out.ge) HI0.out.ge), keep_drew (KeepBut.set_ (KeepBut.set_ HK.out 1 _) 2 _)⟩
  ·have hb0 : (t104 != 0) = true := bne_iff_ne.mpr hc
   have HC := Aside0.mk hc
   clear hc
   go_region
   all_goals go_wp2
   all_goals
    go_ret
    have e := H4.out
    rw [Bool.false_or, decide_eq_true HC.out] at e
    subst e
    exact ⟨rfl, ((HI0.out.set_1 t103).set_2 true).drew, below_drew1 (below_set (below_set HB.out HI0.out.ge) HI0.out.ge), keep_drew (KeepBut.set_ (KeepBut.set_ HK.out 1 _) 2 _)⟩
def impl_reader_route.f (k : Nat) (s0_0 : ByteArray) (s0_1 : Int) (s0_2 : Bool) : Option (Int × Int × Int × Int × Int × Int × Bool × ByteArray × Int × Bool) := (impl_reader_num.f k s0_0 s0_1 s0_2).bind fun bt324 => ((impl_reader_num.f k bt324.2.1 bt324.2.2.1 bt324.2.2.2).bind fun bt329 => ((impl_reader_num.f k bt329.2.1 bt329.2.2.1 bt329.2.2.2).bind fun bt333 => ((impl_reader_num.f k bt333.2.1 bt333.2.2.1 bt333.2.2.2).bind fun bt337 => ((impl_reader_num.f k bt337.2.1 bt337.2.2.1 bt337.2.2.2).bind fun bt341 => ((impl_reader_num.f k bt341.2.1 bt341.2.2.1 bt341.2.2.2).bind fun bt345 => ((impl_reader_num.f k bt345.2.1 bt345.2.2.1 bt345.2.2.2).bind fun bt349 => (some (bt324.1, bt329.1, bt333.1, bt337.1, bt341.1, bt345.1, (bt349.1 == 1), bt349.2.1, bt349.2.2.1, bt349.2.2.2))))))))
set_option maxHeartbeats 8000000 in
set_option maxRecDepth 100000 in
theorem impl_reader_route.calls (k : Nat) (g : Nat) (s0_0 : ByteArray) (s0_1 : Int) (s0_2 : Bool) (r1 : Int) (r2 : Int) (r3 : Int) (r4 : Int) (r5 : Int) (r6 : Int) (r7 : Bool) (r8 : ByteArray) (r9 : Int) (r10 : Bool) (w0 w : World) (hI : IsS92 w0 w g s0_0 s0_1 s0_2) (hB : Below w0.heap.size w0 w) (h : impl_reader_route.f k s0_0 s0_1 s0_2 = some (r1, r2, r3, r4, r5, r6, r7, r8, r9, r10)) :
  Calls Try.prog 68 #[.pointer (some ⟨g, 0, none⟩)] w fun e w' => e = .returned (.agg #[.int .i64 r1, .int .i64 r2, .int .i64 r3, .int .i64 r4, .int .i64 r5, .int .i64 r6, .bool r7]) ∧ IsS92 w0 w' g r8 r9 r10 ∧ Below w0.heap.size w0 w' ∧ KeepBut w w' g none := by
 have hu24 := Try.underlying24
 have HI0 := Aside0.mk hI
 have HK := Aside0.mk (KeepBut.refl w g none)
 have HL := Aside0.mk hB.size
 clear hI
 have HW0 := Aside0.mk hB.size
 have HB := Aside0.mk hB
 clear hB
 have H : ((impl_reader_num.f k s0_0 s0_1 s0_2).bind fun bt324 => ((impl_reader_num.f k bt324.2.1 bt324.2.2.1 bt324.2.2.2).bind fun bt329 => ((impl_reader_num.f k bt329.2.1 bt329.2.2.1 bt329.2.2.2).bind fun bt333 => ((impl_reader_num.f k bt333.2.1 bt333.2.2.1 bt333.2.2.2).bind fun bt337 => ((impl_reader_num.f k bt337.2.1 bt337.2.2.1 bt337.2.2.2).bind fun bt341 => ((impl_reader_num.f k bt341.2.1 bt341.2.2.1 bt341.2.2.2).bind fun bt345 => ((impl_reader_num.f k bt345.2.1 bt345.2.2.1 bt345.2.2.2).bind fun bt349 => (some (bt324.1, bt329.1, bt333.1, bt337.1, bt341.1, bt345.1, (bt349.1 == 1), bt349.2.1, bt349.2.2.1, bt349.2.2.2))))))))) = some (r1, r2, r3, r4, r5, r6, r7, r8, r9, r10) := h
 clear h
 replace H := Option.bind_eq_some_iff.mp H
 obtain ⟨⟨t324, t325, t326, t327⟩, A20, H⟩ := H
 try dsimp only at H
 have A2 := Aside0.mk A20
 clear A20
 replace H := Option.bind_eq_some_iff.mp H
 obtain ⟨⟨t329, t330, t331, t332⟩, A30, H⟩ := H
 try dsimp only at H
 have A3 := Aside0.mk A30
 clear A30
 replace H := Option.bind_eq_some_iff.mp H
 obtain ⟨⟨t333, t334, t335, t336⟩, A40, H⟩ := H
 try dsimp only at H
 have A4 := Aside0.mk A40
 clear A40
 replace H := Option.bind_eq_some_iff.mp H
 obtain ⟨⟨t337, t338, t339, t340⟩, A50, H⟩ := H
 try dsimp only at H
 have A5 := Aside0.mk A50
 clear A50
 replace H := Option.bind_eq_some_iff.mp H
 obtain ⟨⟨t341, t342, t343, t344⟩, A60, H⟩ := H
 try dsimp only at H
 have A6 := Aside0.mk A60
 clear A60
 replace H := Option.bind_eq_some_iff.mp H
 obtain ⟨⟨t345, t346, t347, t348⟩, A70, H⟩ := H
 try dsimp only at H
 have A7 := Aside0.mk A70
 clear A70
 replace H := Option.bind_eq_some_iff.mp H
 obtain ⟨⟨t349, t350, t351, t352⟩, A80, H⟩ := H
 try dsimp only at H
 have A8 := Aside0.mk A80
 clear A80
 simp only [Option.some.injEq, Prod.mk.injEq] at H
 obtain ⟨rfl, rfl, rfl, rfl, rfl, rfl, rfl, rfl, rfl, rfl⟩ := H
 go_enter Try.func68, Try.ntmps68
 go_wp2_with (first | ((with_reducible refine gate_dst (N := 2) rfl ?_); refine box_event ?hg (N := 2) ?hd (cs := #[.int .i64 0, .int .i64 0, .int .i64 0, .int .i64 0, .int .i64 0, .int .i64 0, .bool false]) (t := 24) ?hr ?_; (case hd => rfl); (case hg => rfl); (case hr => first | (go_simp; done) | (go_simp; rfl)); intro gb323 hg w9 hbox hb; have n0_ := Aside0.mk (IsS92.below (by repeat (first | (with_reducible first | exact HI0.out | apply IsS92.alloc | apply IsS92.drewN | apply IsS92.drew | apply IsS92.set_0 | apply IsS92.set_1 | apply IsS92.set_2) | exact HI0.out | exact (default : Bool))) hb); have n1_ := Aside0.mk (KeepBut.trans (by repeat (first | (with_reducible first | exact HK.out | apply KeepBut.set_ | apply keep_drewN | apply keep_drew | apply keep_alloc) | exact HK.out)) (KeepBut.of_below hb g none) (.inl rfl)); have n2_ := Aside0.mk (below_step (by repeat (first | (with_reducible first | exact HB.out | apply below_alloc | apply pw_below_drewN | apply below_drew1 | refine below_set ?_ (IsS92.ge HI0.out)) | exact HB.out)) hb); have n3_ := Aside0.mk (hbox); have n4_ := Aside0.mk ((by rw [hg]; exact (keep_size (w := w) (g := g) (row := none) (by repeat (first | (with_reducible first | exact HK.out | apply KeepBut.set_ | apply keep_drewN | apply keep_drew | apply keep_alloc) | exact HK.out))) : w.heap.size ≤ gb323)); have n5_ := Aside0.mk ((Nat.le_trans HW0.out (by rw [hg]; exact (keep_size (w := w) (g := g) (row := none) (by repeat (first | (with_reducible first | exact HK.out | apply KeepBut.set_ | apply keep_drewN | apply keep_drew | apply keep_alloc) | exact HK.out))) : w.heap.size ≤ gb323) : w0.heap.size ≤ gb323)); have n6_ := Aside0.mk ((by rw [hg]; exact Nat.ne_of_lt (IsS92.lt (show IsS92 w0 _ g s0_0 s0_1 s0_2 from by repeat (first | (with_reducible first | exact HI0.out | apply IsS92.alloc | apply IsS92.drewN | apply IsS92.drew | apply IsS92.set_0 | apply IsS92.set_1 | apply IsS92.set_2) | exact HI0.out | exact (default : Bool)))) : g ≠ gb323)); have n7_ := Aside0.mk ((by rw [hg]; exact Nat.ne_of_gt (IsS92.lt (show IsS92 w0 _ g s0_0 s0_1 s0_2 from by repeat (first | (with_reducible first | exact HI0.out | apply IsS92.alloc | apply IsS92.drewN | apply IsS92.drew | apply IsS92.set_0 | apply IsS92.set_1 | apply IsS92.set_2) | exact HI0.out | exact (default : Bool)))) : gb323 ≠ g)); clear HI0; clear HK; clear HB; have HI0 := n0_; have HK := n1_; have HB := n2_; have BK323 := n3_; have GW323 := n4_; have GE323 := n5_; have NB0_323 := n6_; have NB323_0 := n7_; clear n0_ n1_ n2_ n3_ n4_ n5_ n6_ n7_; clear hb hbox hg) | ((with_reducible refine gate_callee (f := 85) rfl ?_); refine goesL_ (some 5) rfl rfl Try.func85 (by kernel_rfl) rfl #[.pointer (some ⟨g, 0, none⟩)] rfl (by (try simp only [mA, mC, mN]); first | done | rfl | (simp only [List.length_drop, List.length_take]; rfl)) ?_; (with_reducible refine (impl_reader_num.calls k g s0_0 s0_1 s0_2 t324 t325 t326 t327 w0 _ ?side1 ?side2 A2.out).mono ?_); (case side1 => repeat (first | (with_reducible first | exact HI0.out | apply IsS92.alloc | apply IsS92.drewN | apply IsS92.drew | apply IsS92.set_0 | apply IsS92.set_1 | apply IsS92.set_2 | apply IsS92.far (hne := NB0_323.out)) | exact HI0.out | exact (default : Bool))); (case side2 => repeat (first | (with_reducible first | exact HB.out | apply below_alloc | apply pw_below_drewN | apply below_drew1 | refine below_set ?_ (IsS92.ge HI0.out) | refine below_set ?_ GE323.out) | exact HB.out)); rintro e w10 ⟨rfl, hi, hb, hk⟩; refine ⟨_, rfl, ?_⟩; have n0_ := Aside0.mk (KeepBut.blk hk (g' := gb323) (o := .cells #[.int .i64 0, .int .i64 0, .int .i64 0, .int .i64 0, .int .i64 0, .int .i64 0, .bool false] 24 (0, 0)) (by (with_reducible repeat (first | refine blk_drewN ?_ _ | refine blk_drew ?_ | refine blk_alloc ?_ _)); exact BK323.out) NB323_0.out (by simp)); have n1_ := Aside0.mk (KeepBut.trans (by repeat (first | (with_reducible first | exact HK.out | apply KeepBut.set_ | apply keep_drewN | apply keep_drew | apply keep_alloc | refine keep_far ?_ GW323.out _) | exact HK.out)) hk (.inl rfl)); have n2_ := Aside0.mk (hb); have n3_ := Aside0.mk (hi); clear BK323; clear HK; clear HB; clear HI0; have BK323 := n0_; have HK := n1_; have HB := n2_; have HI0 := n3_; clear n0_ n1_ n2_ n3_; (try clear hb); (try clear hb2); (try clear hk); (try clear hi)) | ((with_reducible refine gate_dst (N := 3) rfl ?_); refine box_event ?hg (N := 3) ?hd (cs := #[.int .i64 0, .int .i64 0, .int .i64 0, .int .i64 0, .int .i64 0, .int .i64 0, .bool false]) (t := 24) ?hr ?_; (case hd => rfl); (case hg => rfl); (case hr => first | (go_simp; done) | (go_simp; rfl)); intro gb328 hg w11 hbox hb; have n0_ := Aside0.mk (IsS92.below (by repeat (first | (with_reducible first | exact HI0.out | apply IsS92.alloc | apply IsS92.drewN | apply IsS92.drew | apply IsS92.set_0 | apply IsS92.set_1 | apply IsS92.set_2 | apply IsS92.far (hne := NB0_323.out)) | exact HI0.out | exact (default : Bool))) hb); have n1_ := Aside0.mk (blk_below (g := gb323) (o := .cells #[.int .i64 0, .int .i64 0, .int .i64 0, .int .i64 0, .int .i64 0, .int .i64 0, .bool false] 24 (0, 0)) (by (with_reducible repeat (first | refine blk_drewN ?_ _ | refine blk_drew ?_ | refine blk_alloc ?_ _)); exact BK323.out) hb); have n2_ := Aside0.mk (KeepBut.trans (by repeat (first | (with_reducible first | exact HK.out | apply KeepBut.set_ | apply keep_drewN | apply keep_drew | apply keep_alloc | refine keep_far ?_ GW323.out _) | exact HK.out)) (KeepBut.of_below hb g none) (.inl rfl)); have n3_ := Aside0.mk (below_step (by repeat (first | (with_reducible first | exact HB.out | apply below_alloc | apply pw_below_drewN | apply below_drew1 | refine below_set ?_ (IsS92.ge HI0.out) | refine below_set ?_ GE323.out) | exact HB.out)) hb); have n4_ := Aside0.mk (hbox); have n5_ := Aside0.mk ((by rw [hg]; exact (keep_size (w := w) (g := g) (row := none) (by repeat (first | (with_reducible first | exact HK.out | apply KeepBut.set_ | apply keep_drewN | apply keep_drew | apply keep_alloc | refine keep_far ?_ GW323.out _) | exact HK.out))) : w.heap.size ≤ gb328)); have n6_ := Aside0.mk ((Nat.le_trans HW0.out (by rw [hg]; exact (keep_size (w := w) (g := g) (row := none) (by repeat (first | (with_reducible first | exact HK.out | apply KeepBut.set_ | apply keep_drewN | apply keep_drew | apply keep_alloc | refine keep_far ?_ GW323.out _) | exact HK.out))) : w.heap.size ≤ gb328) : w0.heap.size ≤ gb328)); have n7_ := Aside0.mk ((by rw [hg]; exact Nat.ne_of_lt (blk_lt (g := gb323) (o := .cells #[.int .i64 0, .int .i64 0, .int .i64 0, .int .i64 0, .int .i64 0, .int .i64 0, .bool false] 24 (0, 0)) (by (with_reducible repeat (first | refine blk_drewN ?_ _ | refine blk_drew ?_ | refine blk_alloc ?_ _)); exact BK323.out)) : gb323 ≠ gb328)); have n8_ := Aside0.mk ((by rw [hg]; exact Nat.ne_of_gt (blk_lt (g := gb323) (o := .cells #[.int .i64 0, .int .i64 0, .int .i64 0, .int .i64 0, .int .i64 0, .int .i64 0, .bool false] 24 (0, 0)) (by (with_reducible repeat (first | refine blk_drewN ?_ _ | refine blk_drew ?_ | refine blk_alloc ?_ _)); exact BK323.out)) : gb328 ≠ gb323)); have n9_ := Aside0.mk ((by rw [hg]; exact Nat.ne_of_lt (IsS92.lt (show IsS92 w0 _ g t325 t326 t327 from by repeat (first | (with_reducible first | exact HI0.out | apply IsS92.alloc | apply IsS92.drewN | apply IsS92.drew | apply IsS92.set_0 | apply IsS92.set_1 | apply IsS92.set_2 | apply IsS92.far (hne := NB0_323.out)) | exact HI0.out | exact (default : Bool)))) : g ≠ gb328)); have n10_ := Aside0.mk ((by rw [hg]; exact Nat.ne_of_gt (IsS92.lt (show IsS92 w0 _ g t325 t326 t327 from by repeat (first | (with_reducible first | exact HI0.out | apply IsS92.alloc | apply IsS92.drewN | apply IsS92.drew | apply IsS92.set_0 | apply IsS92.set_1 | apply IsS92.set_2 | apply IsS92.far (hne := NB0_323.out)) | exact HI0.out | exact (default : Bool)))) : gb328 ≠ g)); clear HI0; clear BK323; clear HK; clear HB; have HI0 := n0_; have BK323 := n1_; have HK := n2_; have HB := n3_; have BK328 := n4_; have GW328 := n5_; have GE328 := n6_; have NB323_328 := n7_; have NB328_323 := n8_; have NB0_328 := n9_; have NB328_0 := n10_; clear n0_ n1_ n2_ n3_ n4_ n5_ n6_ n7_ n8_ n9_ n10_; clear hb hbox hg; have hnb12 := NB328_323.out; have hnc12 := NB323_328.out; have hnb13 := NB328_0.out; have hnc13 := NB0_328.out; have hcz14_0 : w11.cell? ⟨gb328, 0, none⟩ = some (.int .i64 0) := (blk_cell BK328.out 0).trans rfl; have hcz14_1 : w11.cell? ⟨gb328, 1, none⟩ = some (.int .i64 0) := (blk_cell BK328.out 1).trans rfl; have hcz14_2 : w11.cell? ⟨gb328, 2, none⟩ = some (.int .i64 0) := (blk_cell BK328.out 2).trans rfl; have hcz14_3 : w11.cell? ⟨gb328, 3, none⟩ = some (.int .i64 0) := (blk_cell BK328.out 3).trans rfl; have hcz14_4 : w11.cell? ⟨gb328, 4, none⟩ = some (.int .i64 0) := (blk_cell BK328.out 4).trans rfl; have hcz14_5 : w11.cell? ⟨gb328, 5, none⟩ = some (.int .i64 0) := (blk_cell BK328.out 5).trans rfl; have hcz14_6 : w11.cell? ⟨gb328, 6, none⟩ = some (.bool false) := (blk_cell BK328.out 6).trans rfl; have hfz14_0 := blk_frozen BK328.out 0; have hfz14_1 := blk_frozen BK328.out 1; have hfz14_2 := blk_frozen BK328.out 2; have hfz14_3 := blk_frozen BK328.out 3; have hfz14_4 := blk_frozen BK328.out 4; have hfz14_5 := blk_frozen BK328.out 5; have hfz14_6 := blk_frozen BK328.out 6) | ((with_reducible refine gate_callee (f := 85) rfl ?_); refine goesL_ (some 8) rfl rfl Try.func85 (by kernel_rfl) rfl #[.pointer (some ⟨g, 0, none⟩)] rfl (by (try simp only [mA, mC, mN]); first | done | rfl | (simp only [List.length_drop, List.length_take]; rfl)) ?_; (with_reducible refine (impl_reader_num.calls k g t325 t326 t327 t329 t330 t331 t332 w0 _ ?side1 ?side2 A3.out).mono ?_); (case side1 => repeat (first | (with_reducible first | exact HI0.out | apply IsS92.alloc | apply IsS92.drewN | apply IsS92.drew | apply IsS92.set_0 | apply IsS92.set_1 | apply IsS92.set_2 | apply IsS92.far (hne := NB0_323.out) | apply IsS92.far (hne := NB0_328.out)) | exact HI0.out | exact (default : Bool))); (case side2 => repeat (first | (with_reducible first | exact HB.out | apply below_alloc | apply pw_below_drewN | apply below_drew1 | refine below_set ?_ (IsS92.ge HI0.out) | refine below_set ?_ GE323.out | refine below_set ?_ GE328.out) | exact HB.out)); rintro e w15 ⟨rfl, hi, hb, hk⟩; refine ⟨_, rfl, ?_⟩; have n0_ := Aside0.mk (KeepBut.blk hk (g' := gb323) (o := .cells #[.int .i64 0, .int .i64 0, .int .i64 0, .int .i64 0, .int .i64 0, .int .i64 0, .bool false] 24 (0, 0)) (by (with_reducible repeat (first | refine blk_drewN ?_ _ | refine blk_drew ?_ | refine blk_alloc ?_ _)); refine blk_far ?_ NB323_328.out _; (with_reducible repeat (first | refine blk_drewN ?_ _ | refine blk_drew ?_ | refine blk_alloc ?_ _)); refine blk_far ?_ NB323_328.out _; (with_reducible repeat (first | refine blk_drewN ?_ _ | refine blk_drew ?_ | refine blk_alloc ?_ _)); refine blk_far ?_ NB323_328.out _; (with_reducible repeat (first | refine blk_drewN ?_ _ | refine blk_drew ?_ | refine blk_alloc ?_ _)); refine blk_far ?_ NB323_328.out _; (with_reducible repeat (first | refine blk_drewN ?_ _ | refine blk_drew ?_ | refine blk_alloc ?_ _)); refine blk_far ?_ NB323_328.out _; (with_reducible repeat (first | refine blk_drewN ?_ _ | refine blk_drew ?_ | refine blk_alloc ?_ _)); refine blk_far ?_ NB323_328.out _; (with_reducible repeat (first | refine blk_drewN ?_ _ | refine blk_drew ?_ | refine blk_alloc ?_ _)); refine blk_far ?_ NB323_328.out _; (with_reducible repeat (first | refine blk_drewN ?_ _ | refine blk_drew ?_ | refine blk_alloc ?_ _)); exact BK323.out) NB323_0.out (by simp)); have n1_ := Aside0.mk (KeepBut.blk hk (g' := gb328) (o := .cells #[.int .i64 t324, .int .i64 0, .int .i64 0, .int .i64 0, .int .i64 0, .int .i64 0, .bool false] 24 (0, 0)) (by (with_reducible repeat (first | refine blk_drewN ?_ _ | refine blk_drew ?_ | refine blk_alloc ?_ _)); refine blk_put (cs := #[.int .i64 t324, .int .i64 0, .int .i64 0, .int .i64 0, .int .i64 0, .int .i64 0, .bool false]) ?_ 6 _ (by first | rfl | (subst_vars; rfl)); (with_reducible repeat (first | refine blk_drewN ?_ _ | refine blk_drew ?_ | refine blk_alloc ?_ _)); refine blk_put (cs := #[.int .i64 t324, .int .i64 0, .int .i64 0, .int .i64 0, .int .i64 0, .int .i64 0, .bool false]) ?_ 5 _ (by first | rfl | (subst_vars; rfl)); (with_reducible repeat (first | refine blk_drewN ?_ _ | refine blk_drew ?_ | refine blk_alloc ?_ _)); refine blk_put (cs := #[.int .i64 t324, .int .i64 0, .int .i64 0, .int .i64 0, .int .i64 0, .int .i64 0, .bool false]) ?_ 4 _ (by first | rfl | (subst_vars; rfl)); (with_reducible repeat (first | refine blk_drewN ?_ _ | refine blk_drew ?_ | refine blk_alloc ?_ _)); refine blk_put (cs := #[.int .i64 t324, .int .i64 0, .int .i64 0, .int .i64 0, .int .i64 0, .int .i64 0, .bool false]) ?_ 3 _ (by first | rfl | (subst_vars; rfl)); (with_reducible repeat (first | refine blk_drewN ?_ _ | refine blk_drew ?_ | refine blk_alloc ?_ _)); refine blk_put (cs := #[.int .i64 t324, .int .i64 0, .int .i64 0, .int .i64 0, .int .i64 0, .int .i64 0, .bool false]) ?_ 2 _ (by first | rfl | (subst_vars; rfl)); (with_reducible repeat (first | refine blk_drewN ?_ _ | refine blk_drew ?_ | refine blk_alloc ?_ _)); refine blk_put (cs := #[.int .i64 t324, .int .i64 0, .int .i64 0, .int .i64 0, .int .i64 0, .int .i64 0, .bool false]) ?_ 1 _ (by first | rfl | (subst_vars; rfl)); (with_reducible repeat (first | refine blk_drewN ?_ _ | refine blk_drew ?_ | refine blk_alloc ?_ _)); refine blk_put (cs := #[.int .i64 0, .int .i64 0, .int .i64 0, .int .i64 0, .int .i64 0, .int .i64 0, .bool false]) ?_ 0 _ (by first | rfl | (subst_vars; rfl)); (with_reducible repeat (first | refine blk_drewN ?_ _ | refine blk_drew ?_ | refine blk_alloc ?_ _)); exact BK328.out) NB328_0.out (by simp)); have n2_ := Aside0.mk (KeepBut.trans (by repeat (first | (with_reducible first | exact HK.out | apply KeepBut.set_ | apply keep_drewN | apply keep_drew | apply keep_alloc | refine keep_far ?_ GW323.out _ | refine keep_far ?_ GW328.out _) | exact HK.out)) hk (.inl rfl)); have n3_ := Aside0.mk (hb); have n4_ := Aside0.mk (hi); clear BK323; clear BK328; clear HK; clear HB; clear HI0; have BK323 := n0_; have BK328 := n1_; have HK := n2_; have HB := n3_; have HI0 := n4_; clear n0_ n1_ n2_ n3_ n4_; (try clear hb); (try clear hb2); (try clear hk); (try clear hi); have hcz16_0 : w15.cell? ⟨gb328, 0, none⟩ = some (.int .i64 t324) := (blk_cell BK328.out 0).trans rfl; have hcz16_1 : w15.cell? ⟨gb328, 1, none⟩ = some (.int .i64 0) := (blk_cell BK328.out 1).trans rfl; have hcz16_2 : w15.cell? ⟨gb328, 2, none⟩ = some (.int .i64 0) := (blk_cell BK328.out 2).trans rfl; have hcz16_3 : w15.cell? ⟨gb328, 3, none⟩ = some (.int .i64 0) := (blk_cell BK328.out 3).trans rfl; have hcz16_4 : w15.cell? ⟨gb328, 4, none⟩ = some (.int .i64 0) := (blk_cell BK328.out 4).trans rfl; have hcz16_5 : w15.cell? ⟨gb328, 5, none⟩ = some (.int .i64 0) := (blk_cell BK328.out 5).trans rfl; have hcz16_6 : w15.cell? ⟨gb328, 6, none⟩ = some (.bool false) := (blk_cell BK328.out 6).trans rfl; have hfz16_0 := blk_frozen BK328.out 0; have hfz16_1 := blk_frozen BK328.out 1; have hfz16_2 := blk_frozen BK328.out 2; have hfz16_3 := blk_frozen BK328.out 3; have hfz16_4 := blk_frozen BK328.out 4; have hfz16_5 := blk_frozen BK328.out 5; have hfz16_6 := blk_frozen BK328.out 6) | ((with_reducible refine gate_callee (f := 85) rfl ?_); refine goesL_ (some 11) rfl rfl Try.func85 (by kernel_rfl) rfl #[.pointer (some ⟨g, 0, none⟩)] rfl (by (try simp only [mA, mC, mN]); first | done | rfl | (simp only [List.length_drop, List.length_take]; rfl)) ?_; (with_reducible refine (impl_reader_num.calls k g t330 t331 t332 t333 t334 t335 t336 w0 _ ?side1 ?side2 A4.out).mono ?_); (case side1 => repeat (first | (with_reducible first | exact HI0.out | apply IsS92.alloc | apply IsS92.drewN | apply IsS92.drew | apply IsS92.set_0 | apply IsS92.set_1 | apply IsS92.set_2 | apply IsS92.far (hne := NB0_323.out) | apply IsS92.far (hne := NB0_328.out)) | exact HI0.out | exact (default : Bool))); (case side2 => repeat (first | (with_reducible first | exact HB.out | apply below_alloc | apply pw_below_drewN | apply below_drew1 | refine below_set ?_ (IsS92.ge HI0.out) | refine below_set ?_ GE323.out | refine below_set ?_ GE328.out) | exact HB.out)); rintro e w17 ⟨rfl, hi, hb, hk⟩; refine ⟨_, rfl, ?_⟩; have n0_ := Aside0.mk (KeepBut.blk hk (g' := gb323) (o := .cells #[.int .i64 0, .int .i64 0, .int .i64 0, .int .i64 0, .int .i64 0, .int .i64 0, .bool false] 24 (0, 0)) (by (with_reducible repeat (first | refine blk_drewN ?_ _ | refine blk_drew ?_ | refine blk_alloc ?_ _)); refine blk_far ?_ NB323_328.out _; (with_reducible repeat (first | refine blk_drewN ?_ _ | refine blk_drew ?_ | refine blk_alloc ?_ _)); exact BK323.out) NB323_0.out (by simp)); have n1_ := Aside0.mk (KeepBut.blk hk (g' := gb328) (o := .cells #[.int .i64 t324, .int .i64 t329, .int .i64 0, .int .i64 0, .int .i64 0, .int .i64 0, .bool false] 24 (0, 0)) (by (with_reducible repeat (first | refine blk_drewN ?_ _ | refine blk_drew ?_ | refine blk_alloc ?_ _)); refine blk_put (cs := #[.int .i64 t324, .int .i64 0, .int .i64 0, .int .i64 0, .int .i64 0, .int .i64 0, .bool false]) ?_ 1 _ (by first | rfl | (subst_vars; rfl)); (with_reducible repeat (first | refine blk_drewN ?_ _ | refine blk_drew ?_ | refine blk_alloc ?_ _)); exact BK328.out) NB328_0.out (by simp)); have n2_ := Aside0.mk (KeepBut.trans (by repeat (first | (with_reducible first | exact HK.out | apply KeepBut.set_ | apply keep_drewN | apply keep_drew | apply keep_alloc | refine keep_far ?_ GW323.out _ | refine keep_far ?_ GW328.out _) | exact HK.out)) hk (.inl rfl)); have n3_ := Aside0.mk (hb); have n4_ := Aside0.mk (hi); clear BK323; clear BK328; clear HK; clear HB; clear HI0; have BK323 := n0_; have BK328 := n1_; have HK := n2_; have HB := n3_; have HI0 := n4_; clear n0_ n1_ n2_ n3_ n4_; (try clear hb); (try clear hb2); (try clear hk); (try clear hi); have hcz18_0 : w17.cell? ⟨gb328, 0, none⟩ = some (.int .i64 t324) := (blk_cell BK328.out 0).trans rfl; have hcz18_1 : w17.cell? ⟨gb328, 1, none⟩ = some (.int .i64 t329) := (blk_cell BK328.out 1).trans rfl; have hcz18_2 : w17.cell? ⟨gb328, 2, none⟩ = some (.int .i64 0) := (blk_cell BK328.out 2).trans rfl; have hcz18_3 : w17.cell? ⟨gb328, 3, none⟩ = some (.int .i64 0) := (blk_cell BK328.out 3).trans rfl; have hcz18_4 : w17.cell? ⟨gb328, 4, none⟩ = some (.int .i64 0) := (blk_cell BK328.out 4).trans rfl; have hcz18_5 : w17.cell? ⟨gb328, 5, none⟩ = some (.int .i64 0) := (blk_cell BK328.out 5).trans rfl; have hcz18_6 : w17.cell? ⟨gb328, 6, none⟩ = some (.bool false) := (blk_cell BK328.out 6).trans rfl; have hfz18_0 := blk_frozen BK328.out 0; have hfz18_1 := blk_frozen BK328.out 1; have hfz18_2 := blk_frozen BK328.out 2; have hfz18_3 := blk_frozen BK328.out 3; have hfz18_4 := blk_frozen BK328.out 4; have hfz18_5 := blk_frozen BK328.out 5; have hfz18_6 := blk_frozen BK328.out 6) | ((with_reducible refine gate_callee (f := 85) rfl ?_); refine goesL_ (some 14) rfl rfl Try.func85 (by kernel_rfl) rfl #[.pointer (some ⟨g, 0, none⟩)] rfl (by (try simp only [mA, mC, mN]); first | done | rfl | (simp only [List.length_drop, List.length_take]; rfl)) ?_; (with_reducible refine (impl_reader_num.calls k g t334 t335 t336 t337 t338 t339 t340 w0 _ ?side1 ?side2 A5.out).mono ?_); (case side1 => repeat (first | (with_reducible first | exact HI0.out | apply IsS92.alloc | apply IsS92.drewN | apply IsS92.drew | apply IsS92.set_0 | apply IsS92.set_1 | apply IsS92.set_2 | apply IsS92.far (hne := NB0_323.out) | apply IsS92.far (hne := NB0_328.out)) | exact HI0.out | exact (default : Bool))); (case side2 => repeat (first | (with_reducible first | exact HB.out | apply below_alloc | apply pw_below_drewN | apply below_drew1 | refine below_set ?_ (IsS92.ge HI0.out) | refine below_set ?_ GE323.out | refine below_set ?_ GE328.out) | exact HB.out)); rintro e w19 ⟨rfl, hi, hb, hk⟩; refine ⟨_, rfl, ?_⟩; have n0_ := Aside0.mk (KeepBut.blk hk (g' := gb323) (o := .cells #[.int .i64 0, .int .i64 0, .int .i64 0, .int .i64 0, .int .i64 0, .int .i64 0, .bool false] 24 (0, 0)) (by (with_reducible repeat (first | refine blk_drewN ?_ _ | refine blk_drew ?_ | refine blk_alloc ?_ _)); refine blk_far ?_ NB323_328.out _; (with_reducible repeat (first | refine blk_drewN ?_ _ | refine blk_drew ?_ | refine blk_alloc ?_ _)); exact BK323.out) NB323_0.out (by simp)); have n1_ := Aside0.mk (KeepBut.blk hk (g' := gb328) (o := .cells #[.int .i64 t324, .int .i64 t329, .int .i64 t333, .int .i64 0, .int .i64 0, .int .i64 0, .bool false] 24 (0, 0)) (by (with_reducible repeat (first | refine blk_drewN ?_ _ | refine blk_drew ?_ | refine blk_alloc ?_ _)); refine blk_put (cs := #[.int .i64 t324, .int .i64 t329, .int .i64 0, .int .i64 0, .int .i64 0, .int .i64 0, .bool false]) ?_ 2 _ (by first | rfl | (subst_vars; rfl)); (with_reducible repeat (first | refine blk_drewN ?_ _ | refine blk_drew ?_ | refine blk_alloc ?_ _)); exact BK328.out) NB328_0.out (by simp)); have n2_ := Aside0.mk (KeepBut.trans (by repeat (first | (with_reducible first | exact HK.out | apply KeepBut.set_ | apply keep_drewN | apply keep_drew | apply keep_alloc | refine keep_far ?_ GW323.out _ | refine keep_far ?_ GW328.out _) | exact HK.out)) hk (.inl rfl)); have n3_ := Aside0.mk (hb); have n4_ := Aside0.mk (hi); clear BK323; clear BK328; clear HK; clear HB; clear HI0; have BK323 := n0_; have BK328 := n1_; have HK := n2_; have HB := n3_; have HI0 := n4_; clear n0_ n1_ n2_ n3_ n4_; (try clear hb); (try clear hb2); (try clear hk); (try clear hi); have hcz20_0 : w19.cell? ⟨gb328, 0, none⟩ = some (.int .i64 t324) := (blk_cell BK328.out 0).trans rfl; have hcz20_1 : w19.cell? ⟨gb328, 1, none⟩ = some (.int .i64 t329) := (blk_cell BK328.out 1).trans rfl; have hcz20_2 : w19.cell? ⟨gb328, 2, none⟩ = some (.int .i64 t333) := (blk_cell BK328.out 2).trans rfl; have hcz20_3 : w19.cell? ⟨gb328, 3, none⟩ = some (.int .i64 0) := (blk_cell BK328.out 3).trans rfl; have hcz20_4 : w19.cell? ⟨gb328, 4, none⟩ = some (.int .i64 0) := (blk_cell BK328.out 4).trans rfl; have hcz20_5 : w19.cell? ⟨gb328, 5, none⟩ = some (.int .i64 0) := (blk_cell BK328.out 5).trans rfl; have hcz20_6 : w19.cell? ⟨gb328, 6, none⟩ = some (.bool false) := (blk_cell BK328.out 6).trans rfl; have hfz20_0 := blk_frozen BK328.out 0; have hfz20_1 := blk_frozen BK328.out 1; have hfz20_2 := blk_frozen BK328.out 2; have hfz20_3 := blk_frozen BK328.out 3; have hfz20_4 := blk_frozen BK328.out 4; have hfz20_5 := blk_frozen BK328.out 5; have hfz20_6 := blk_frozen BK328.out 6) | ((with_reducible refine gate_callee (f := 85) rfl ?_); refine goesL_ (some 17) rfl rfl Try.func85 (by kernel_rfl) rfl #[.pointer (some ⟨g, 0, none⟩)] rfl (by (try simp only [mA, mC, mN]); first | done | rfl | (simp only [List.length_drop, List.length_take]; rfl)) ?_; (with_reducible refine (impl_reader_num.calls k g t338 t339 t340 t341 t342 t343 t344 w0 _ ?side1 ?side2 A6.out).mono ?_); (case side1 => repeat (first | (with_reducible first | exact HI0.out | apply IsS92.alloc | apply IsS92.drewN | apply IsS92.drew | apply IsS92.set_0 | apply IsS92.set_1 | apply IsS92.set_2 | apply IsS92.far (hne := NB0_323.out) | apply IsS92.far (hne := NB0_328.out)) | exact HI0.out | exact (default : Bool))); (case side2 => repeat (first | (with_reducible first | exact HB.out | apply below_alloc | apply pw_below_drewN | apply below_drew1 | refine below_set ?_ (IsS92.ge HI0.out) | refine below_set ?_ GE323.out | refine below_set ?_ GE328.out) | exact HB.out)); rintro e w21 ⟨rfl, hi, hb, hk⟩; refine ⟨_, rfl, ?_⟩; have n0_ := Aside0.mk (KeepBut.blk hk (g' := gb323) (o := .cells #[.int .i64 0, .int .i64 0, .int .i64 0, .int .i64 0, .int .i64 0, .int .i64 0, .bool false] 24 (0, 0)) (by (with_reducible repeat (first | refine blk_drewN ?_ _ | refine blk_drew ?_ | refine blk_alloc ?_ _)); refine blk_far ?_ NB323_328.out _; (with_reducible repeat (first | refine blk_drewN ?_ _ | refine blk_drew ?_ | refine blk_alloc ?_ _)); exact BK323.out) NB323_0.out (by simp)); have n1_ := Aside0.mk (KeepBut.blk hk (g' := gb328) (o := .cells #[.int .i64 t324, .int .i64 t329, .int .i64 t333, .int .i64 t337, .int .i64 0, .int .i64 0, .bool false] 24 (0, 0)) (by (with_reducible repeat (first | refine blk_drewN ?_ _ | refine blk_drew ?_ | refine blk_alloc ?_ _)); refine blk_put (cs := #[.int .i64 t324, .int .i64 t329, .int .i64 t333, .int .i64 0, .int .i64 0, .int .i64 0, .bool false]) ?_ 3 _ (by first | rfl | (subst_vars; rfl)); (with_reducible repeat (first | refine blk_drewN ?_ _ | refine blk_drew ?_ | refine blk_alloc ?_ _)); exact BK328.out) NB328_0.out (by simp)); have n2_ := Aside0.mk (KeepBut.trans (by repeat (first | (with_reducible first | exact HK.out | apply KeepBut.set_ | apply keep_drewN | apply keep_drew | apply keep_alloc | refine keep_far ?_ GW323.out _ | refine keep_far ?_ GW328.out _) | exact HK.out)) hk (.inl rfl)); have n3_ := Aside0.mk (hb); have n4_ := Aside0.mk (hi); clear BK323; clear BK328; clear HK; clear HB; clear HI0; have BK323 := n0_; have BK328 := n1_; have HK := n2_; have HB := n3_; have HI0 := n4_; clear n0_ n1_ n2_ n3_ n4_; (try clear hb); (try clear hb2); (try clear hk); (try clear hi); have hcz22_0 : w21.cell? ⟨gb328, 0, none⟩ = some (.int .i64 t324) := (blk_cell BK328.out 0).trans rfl; have hcz22_1 : w21.cell? ⟨gb328, 1, none⟩ = some (.int .i64 t329) := (blk_cell BK328.out 1).trans rfl; have hcz22_2 : w21.cell? ⟨gb328, 2, none⟩ = some (.int .i64 t333) := (blk_cell BK328.out 2).trans rfl; have hcz22_3 : w21.cell? ⟨gb328, 3, none⟩ = some (.int .i64 t337) := (blk_cell BK328.out 3).trans rfl; have hcz22_4 : w21.cell? ⟨gb328, 4, none⟩ = some (.int .i64 0) := (blk_cell BK328.out 4).trans rfl; have hcz22_5 : w21.cell? ⟨gb328, 5, none⟩ = some (.int .i64 0) := (blk_cell BK328.out 5).trans rfl; have hcz22_6 : w21.cell? ⟨gb328, 6, none⟩ = some (.bool false) := (blk_cell BK328.out 6).trans rfl; have hfz22_0 := blk_frozen BK328.out 0; have hfz22_1 := blk_frozen BK328.out 1; have hfz22_2 := blk_frozen BK328.out 2; have hfz22_3 := blk_frozen BK328.out 3; have hfz22_4 := blk_frozen BK328.out 4; have hfz22_5 := blk_frozen BK328.out 5; have hfz22_6 := blk_frozen BK328.out 6) | ((with_reducible refine gate_callee (f := 85) rfl ?_); refine goesL_ (some 20) rfl rfl Try.func85 (by kernel_rfl) rfl #[.pointer (some ⟨g, 0, none⟩)] rfl (by (try simp only [mA, mC, mN]); first | done | rfl | (simp only [List.length_drop, List.length_take]; rfl)) ?_; (with_reducible refine (impl_reader_num.calls k g t342 t343 t344 t345 t346 t347 t348 w0 _ ?side1 ?side2 A7.out).mono ?_); (case side1 => repeat (first | (with_reducible first | exact HI0.out | apply IsS92.alloc | apply IsS92.drewN | apply IsS92.drew | apply IsS92.set_0 | apply IsS92.set_1 | apply IsS92.set_2 | apply IsS92.far (hne := NB0_323.out) | apply IsS92.far (hne := NB0_328.out)) | exact HI0.out | exact (default : Bool))); (case side2 => repeat (first | (with_reducible first | exact HB.out | apply below_alloc | apply pw_below_drewN | apply below_drew1 | refine below_set ?_ (IsS92.ge HI0.out) | refine below_set ?_ GE323.out | refine below_set ?_ GE328.out) | exact HB.out)); rintro e w23 ⟨rfl, hi, hb, hk⟩; refine ⟨_, rfl, ?_⟩; have n0_ := Aside0.mk (KeepBut.blk hk (g' := gb323) (o := .cells #[.int .i64 0, .int .i64 0, .int .i64 0, .int .i64 0, .int .i64 0, .int .i64 0, .bool false] 24 (0, 0)) (by (with_reducible repeat (first | refine blk_drewN ?_ _ | refine blk_drew ?_ | refine blk_alloc ?_ _)); refine blk_far ?_ NB323_328.out _; (with_reducible repeat (first | refine blk_drewN ?_ _ | refine blk_drew ?_ | refine blk_alloc ?_ _)); exact BK323.out) NB323_0.out (by simp)); have n1_ := Aside0.mk (KeepBut.blk hk (g' := gb328) (o := .cells #[.int .i64 t324, .int .i64 t329, .int .i64 t333, .int .i64 t337, .int .i64 t341, .int .i64 0, .bool false] 24 (0, 0)) (by (with_reducible repeat (first | refine blk_drewN ?_ _ | refine blk_drew ?_ | refine blk_alloc ?_ _)); refine blk_put (cs := #[.int .i64 t324, .int .i64 t329, .int .i64 t333, .int .i64 t337, .int .i64 0, .int .i64 0, .bool false]) ?_ 4 _ (by first | rfl | (subst_vars; rfl)); (with_reducible repeat (first | refine blk_drewN ?_ _ | refine blk_drew ?_ | refine blk_alloc ?_ _)); exact BK328.out) NB328_0.out (by simp)); have n2_ := Aside0.mk (KeepBut.trans (by repeat (first | (with_reducible first | exact HK.out | apply KeepBut.set_ | apply keep_drewN | apply keep_drew | apply keep_alloc | refine keep_far ?_ GW323.out _ | refine keep_far ?_ GW328.out _) | exact HK.out)) hk (.inl rfl)); have n3_ := Aside0.mk (hb); have n4_ := Aside0.mk (hi); clear BK323; clear BK328; clear HK; clear HB; clear HI0; have BK323 := n0_; have BK328 := n1_; have HK := n2_; have HB := n3_; have HI0 := n4_; clear n0_ n1_ n2_ n3_ n4_; (try clear hb); (try clear hb2); (try clear hk); (try clear hi); have hcz24_0 : w23.cell? ⟨gb328, 0, none⟩ = some (.int .i64 t324) := (blk_cell BK328.out 0).trans rfl; have hcz24_1 : w23.cell? ⟨gb328, 1, none⟩ = some (.int .i64 t329) := (blk_cell BK328.out 1).trans rfl; have hcz24_2 : w23.cell? ⟨gb328, 2, none⟩ = some (.int .i64 t333) := (blk_cell BK328.out 2).trans rfl; have hcz24_3 : w23.cell? ⟨gb328, 3, none⟩ = some (.int .i64 t337) := (blk_cell BK328.out 3).trans rfl; have hcz24_4 : w23.cell? ⟨gb328, 4, none⟩ = some (.int .i64 t341) := (blk_cell BK328.out 4).trans rfl; have hcz24_5 : w23.cell? ⟨gb328, 5, none⟩ = some (.int .i64 0) := (blk_cell BK328.out 5).trans rfl; have hcz24_6 : w23.cell? ⟨gb328, 6, none⟩ = some (.bool false) := (blk_cell BK328.out 6).trans rfl; have hfz24_0 := blk_frozen BK328.out 0; have hfz24_1 := blk_frozen BK328.out 1; have hfz24_2 := blk_frozen BK328.out 2; have hfz24_3 := blk_frozen BK328.out 3; have hfz24_4 := blk_frozen BK328.out 4; have hfz24_5 := blk_frozen BK328.out 5; have hfz24_6 := blk_frozen BK328.out 6) | ((with_reducible refine gate_callee (f := 85) rfl ?_); refine goesL_ (some 23) rfl rfl Try.func85 (by kernel_rfl) rfl #[.pointer (some ⟨g, 0, none⟩)] rfl (by (try simp only [mA, mC, mN]); first | done | rfl | (simp only [List.length_drop, List.length_take]; rfl)) ?_; (with_reducible refine (impl_reader_num.calls k g t346 t347 t348 t349 t350 t351 t352 w0 _ ?side1 ?side2 A8.out).mono ?_); (case side1 => repeat (first | (with_reducible first | exact HI0.out | apply IsS92.alloc | apply IsS92.drewN | apply IsS92.drew | apply IsS92.set_0 | apply IsS92.set_1 | apply IsS92.set_2 | apply IsS92.far (hne := NB0_323.out) | apply IsS92.far (hne := NB0_328.out)) | exact HI0.out | exact (default : Bool))); (case side2 => repeat (first | (with_reducible first | exact HB.out | apply below_alloc | apply pw_below_drewN | apply below_drew1 | refine below_set ?_ (IsS92.ge HI0.out) | refine below_set ?_ GE323.out | refine below_set ?_ GE328.out) | exact HB.out)); rintro e w25 ⟨rfl, hi, hb, hk⟩; refine ⟨_, rfl, ?_⟩; have n0_ := Aside0.mk (KeepBut.blk hk (g' := gb323) (o := .cells #[.int .i64 0, .int .i64 0, .int .i64 0, .int .i64 0, .int .i64 0, .int .i64 0, .bool false] 24 (0, 0)) (by (with_reducible repeat (first | refine blk_drewN ?_ _ | refine blk_drew ?_ | refine blk_alloc ?_ _)); refine blk_far ?_ NB323_328.out _; (with_reducible repeat (first | refine blk_drewN ?_ _ | refine blk_drew ?_ | refine blk_alloc ?_ _)); exact BK323.out) NB323_0.out (by simp)); have n1_ := Aside0.mk (KeepBut.blk hk (g' := gb328) (o := .cells #[.int .i64 t324, .int .i64 t329, .int .i64 t333, .int .i64 t337, .int .i64 t341, .int .i64 t345, .bool false] 24 (0, 0)) (by (with_reducible repeat (first | refine blk_drewN ?_ _ | refine blk_drew ?_ | refine blk_alloc ?_ _)); refine blk_put (cs := #[.int .i64 t324, .int .i64 t329, .int .i64 t333, .int .i64 t337, .int .i64 t341, .int .i64 0, .bool false]) ?_ 5 _ (by first | rfl | (subst_vars; rfl)); (with_reducible repeat (first | refine blk_drewN ?_ _ | refine blk_drew ?_ | refine blk_alloc ?_ _)); exact BK328.out) NB328_0.out (by simp)); have n2_ := Aside0.mk (KeepBut.trans (by repeat (first | (with_reducible first | exact HK.out | apply KeepBut.set_ | apply keep_drewN | apply keep_drew | apply keep_alloc | refine keep_far ?_ GW323.out _ | refine keep_far ?_ GW328.out _) | exact HK.out)) hk (.inl rfl)); have n3_ := Aside0.mk (hb); have n4_ := Aside0.mk (hi); clear BK323; clear BK328; clear HK; clear HB; clear HI0; have BK323 := n0_; have BK328 := n1_; have HK := n2_; have HB := n3_; have HI0 := n4_; clear n0_ n1_ n2_ n3_ n4_; (try clear hb); (try clear hb2); (try clear hk); (try clear hi); have hcz26_0 : w25.cell? ⟨gb328, 0, none⟩ = some (.int .i64 t324) := (blk_cell BK328.out 0).trans rfl; have hcz26_1 : w25.cell? ⟨gb328, 1, none⟩ = some (.int .i64 t329) := (blk_cell BK328.out 1).trans rfl; have hcz26_2 : w25.cell? ⟨gb328, 2, none⟩ = some (.int .i64 t333) := (blk_cell BK328.out 2).trans rfl; have hcz26_3 : w25.cell? ⟨gb328, 3, none⟩ = some (.int .i64 t337) := (blk_cell BK328.out 3).trans rfl; have hcz26_4 : w25.cell? ⟨gb328, 4, none⟩ = some (.int .i64 t341) := (blk_cell BK328.out 4).trans rfl; have hcz26_5 : w25.cell? ⟨gb328, 5, none⟩ = some (.int .i64 t345) := (blk_cell BK328.out 5).trans rfl; have hcz26_6 : w25.cell? ⟨gb328, 6, none⟩ = some (.bool false) := (blk_cell BK328.out 6).trans rfl; have hfz26_0 := blk_frozen BK328.out 0; have hfz26_1 := blk_frozen BK328.out 1; have hfz26_2 := blk_frozen BK328.out 2; have hfz26_3 := blk_frozen BK328.out 3; have hfz26_4 := blk_frozen BK328.out 4; have hfz26_5 := blk_frozen BK328.out 5; have hfz26_6 := blk_frozen BK328.out 6; have hnb27 := NB323_0.out; have hnc27 := NB0_323.out; have hcz28_0 : w25.cell? ⟨gb323, 0, none⟩ = some (.int .i64 0) := (blk_cell BK323.out 0).trans rfl; have hcz28_1 : w25.cell? ⟨gb323, 1, none⟩ = some (.int .i64 0) := (blk_cell BK323.out 1).trans rfl; have hcz28_2 : w25.cell? ⟨gb323, 2, none⟩ = some (.int .i64 0) := (blk_cell BK323.out 2).trans rfl; have hcz28_3 : w25.cell? ⟨gb323, 3, none⟩ = some (.int .i64 0) := (blk_cell BK323.out 3).trans rfl; have hcz28_4 : w25.cell? ⟨gb323, 4, none⟩ = some (.int .i64 0) := (blk_cell BK323.out 4).trans rfl; have hcz28_5 : w25.cell? ⟨gb323, 5, none⟩ = some (.int .i64 0) := (blk_cell BK323.out 5).trans rfl; have hcz28_6 : w25.cell? ⟨gb323, 6, none⟩ = some (.bool false) := (blk_cell BK323.out 6).trans rfl; have hfz28_0 := blk_frozen BK323.out 0; have hfz28_1 := blk_frozen BK323.out 1; have hfz28_2 := blk_frozen BK323.out 2; have hfz28_3 := blk_frozen BK323.out 3; have hfz28_4 := blk_frozen BK323.out 4; have hfz28_5 := blk_frozen BK323.out 5; have hfz28_6 := blk_frozen BK323.out 6))
 (try (unfold Instr.field; go_simp; unfold asAgg; go_simp; go_wp2))
 refine bodyPost_ret (results_cell_row rfl _ _ gb323 24 #[.int .i64 t324, .int .i64 t329, .int .i64 t333, .int .i64 t337, .int .i64 t341, .int .i64 t345, .bool (t349 == 1)] (0, 0) _ rfl (by (with_reducible repeat (first | refine blk_drewN ?_ _ | refine blk_drew ?_ | refine blk_alloc ?_ _)); refine blk_put (cs := #[.int .i64 t324, .int .i64 t329, .int .i64 t333, .int .i64 t337, .int .i64 t341, .int .i64 t345, .bool false]) ?_ 6 _ (by first | rfl | (subst_vars; rfl)); (with_reducible repeat (first | refine blk_drewN ?_ _ | refine blk_drew ?_ | refine blk_alloc ?_ _)); refine blk_put (cs := #[.int .i64 t324, .int .i64 t329, .int .i64 t333, .int .i64 t337, .int .i64 t341, .int .i64 0, .bool false]) ?_ 5 _ (by first | rfl | (subst_vars; rfl)); (with_reducible repeat (first | refine blk_drewN ?_ _ | refine blk_drew ?_ | refine blk_alloc ?_ _)); refine blk_put (cs := #[.int .i64 t324, .int .i64 t329, .int .i64 t333, .int .i64 t337, .int .i64 0, .int .i64 0, .bool false]) ?_ 4 _ (by first | rfl | (subst_vars; rfl)); (with_reducible repeat (first | refine blk_drewN ?_ _ | refine blk_drew ?_ | refine blk_alloc ?_ _)); refine blk_put (cs := #[.int .i64 t324, .int .i64 t329, .int .i64 t333, .int .i64 0, .int .i64 0, .int .i64 0, .bool false]) ?_ 3 _ (by first | rfl | (subst_vars; rfl)); (with_reducible repeat (first | refine blk_drewN ?_ _ | refine blk_drew ?_ | refine blk_alloc ?_ _)); refine blk_put (cs := #[.int .i64 t324, .int .i64 t329, .int .i64 0, .int .i64 0, .int .i64 0, .int .i64 0, .bool false]) ?_ 2 _ (by first | rfl | (subst_vars; rfl)); (with_reducible repeat (first | refine blk_drewN ?_ _ | refine blk_drew ?_ | refine blk_alloc ?_ _)); refine blk_put (cs := #[.int .i64 t324, .int .i64 0, .int .i64 0, .int .i64 0, .int .i64 0, .int .i64 0, .bool false]) ?_ 1 _ (by first | rfl | (subst_vars; rfl)); (with_reducible repeat (first | refine blk_drewN ?_ _ | refine blk_drew ?_ | refine blk_alloc ?_ _)); refine blk_put (cs := #[.int .i64 0, .int .i64 0, .int .i64 0, .int .i64 0, .int .i64 0, .int .i64 0, .bool false]) ?_ 0 _ (by first | rfl | (subst_vars; rfl)); (with_reducible repeat (first | refine blk_drewN ?_ _ | refine blk_drew ?_ | refine blk_alloc ?_ _)); refine blk_far ?_ NB323_328.out _; (with_reducible repeat (first | refine blk_drewN ?_ _ | refine blk_drew ?_ | refine blk_alloc ?_ _)); exact BK323.out) Try.underlying24 rfl (by kernel_rfl)) rfl ?_
 exact ⟨by first | rfl | (simp [errW_none, errW_some] <;> rfl) | (simp [*, errW_none, errW_some] <;> rfl), by repeat (first | (with_reducible first | exact HI0.out | apply IsS92.alloc | apply IsS92.drewN | apply IsS92.drew | apply IsS92.set_0 | apply IsS92.set_1 | apply IsS92.set_2 | apply IsS92.far (hne := NB0_323.out) | apply IsS92.far (hne := NB0_328.out)) | exact HI0.out | exact (default : Bool)), by repeat (first | (with_reducible first | exact HB.out | apply below_alloc | apply pw_below_drewN | apply below_drew1 | refine below_set ?_ (IsS92.ge HI0.out) | refine below_set ?_ GE323.out | refine below_set ?_ GE328.out) | exact HB.out), by repeat (first | (with_reducible first | exact HK.out | apply KeepBut.set_ | apply keep_drewN | apply keep_drew | apply keep_alloc | refine keep_far ?_ GW323.out _ | refine keep_far ?_ GW328.out _) | exact HK.out)⟩
def impl_NoteRead.f (k : Nat) (a0 : ByteArray) : Option (Int × Int × Int × Int × Int × Int × Int × Bool × Int) :=
 if a0.size ≤ 8000 then
  (impl_reader_num.f k a0 0 false).bind fun x =>
  if x.1 = 3 then
   (if a0 = ⟨#[]⟩ then some (0, 0, 0, 0, 0, 0, 0, false, 3) else
   (impl_NoteBytes.f k x.1 0 0 0 0 0 0 false).bind fun b => if b = a0 then some (x.1, 0, 0, 0, 0, 0, 0, false, 0) else some (0, 0, 0, 0, 0, 0, 0, false, 3))
  else (impl_reader_route.f k x.2.1 x.2.2.1 x.2.2.2).bind fun y =>
   if a0 = ⟨#[]⟩ then some (0, 0, 0, 0, 0, 0, 0, false, 3) else
   (impl_NoteBytes.f k x.1 y.1 y.2.1 y.2.2.1 y.2.2.2.1 y.2.2.2.2.1 y.2.2.2.2.2.1 y.2.2.2.2.2.2.1).bind fun b => if b = a0 then some (x.1, y.1, y.2.1, y.2.2.1, y.2.2.2.1, y.2.2.2.2.1, y.2.2.2.2.2.1, y.2.2.2.2.2.2.1, 0) else some (0, 0, 0, 0, 0, 0, 0, false, 3)
 else some (0, 0, 0, 0, 0, 0, 0, false, 2)
theorem impl_NoteRead.gen {P : Program} {c : Code} {Q : Exit → Act → World → Prop} {a : Act} {W : World} (p : World → Prop) (h : p W) (k : ∀ W1, p W1 → Code.wp P c Q a W1) : Code.wp P c Q a W := k W h
theorem impl_NoteRead.str_ne {a b : ByteArray} (h : a ≠ b) : (a.toList == b.toList) = false := by
 rw [beq_eq_false_iff_ne, ByteArray.toList_eq, ByteArray.toList_eq]
 intro e
 exact h (ByteArray.ext (Array.toList_inj.1 e))
theorem impl_NoteRead.fin {W : World} {g : Nat} {o0 o1 o2 o3 o4 o5 o6 o7 o8 : Value} (h : W.heap[g]? = some (.cells #[o0, o1, o2, o3, o4, o5, o6, o7, o8] 46 (0, 0))) (v0 v1 v2 v3 v4 v5 v6 v7 v8 : Value) : (((((((((W.setCell ⟨g, 0, none⟩ v0).setCell ⟨g, 1, none⟩ v1).setCell ⟨g, 2, none⟩ v2).setCell ⟨g, 3, none⟩ v3).setCell ⟨g, 4, none⟩ v4).setCell ⟨g, 5, none⟩ v5).setCell ⟨g, 6, none⟩ v6).setCell ⟨g, 7, none⟩ v7).setCell ⟨g, 8, none⟩ v8).heap[g]? = some (.cells #[v0, v1, v2, v3, v4, v5, v6, v7, v8] 46 (0, 0)) := by
 have h1 := blk_set h 0 v0
 have h2 := blk_set h1 1 v1
 have h3 := blk_set h2 2 v2
 have h4 := blk_set h3 3 v3
 have h5 := blk_set h4 4 v4
 have h6 := blk_set h5 5 v5
 have h7 := blk_set h6 6 v6
 have h8 := blk_set h7 7 v7
 have h9 := blk_set h8 8 v8
 simpa using h9
theorem impl_NoteRead.set9 {w W : World} (h : Below w.heap.size w W) (v0 v1 v2 v3 v4 v5 v6 v7 v8 : Value) : Below w.heap.size w (((((((((W.setCell ⟨w.heap.size, 0, none⟩ v0).setCell ⟨w.heap.size, 1, none⟩ v1).setCell ⟨w.heap.size, 2, none⟩ v2).setCell ⟨w.heap.size, 3, none⟩ v3).setCell ⟨w.heap.size, 4, none⟩ v4).setCell ⟨w.heap.size, 5, none⟩ v5).setCell ⟨w.heap.size, 6, none⟩ v6).setCell ⟨w.heap.size, 7, none⟩ v7).setCell ⟨w.heap.size, 8, none⟩ v8) := (below_set (below_set (below_set (below_set (below_set (below_set (below_set (below_set (below_set h (Nat.le_refl _)) (Nat.le_refl _)) (Nat.le_refl _)) (Nat.le_refl _)) (Nat.le_refl _)) (Nat.le_refl _)) (Nat.le_refl _)) (Nat.le_refl _)) (Nat.le_refl _))
theorem impl_NoteRead.put7 {W : World} {g : Nat} {x o0 o1 o2 o3 o4 o5 o6 : Value} (h : W.heap[g]? = some (.cells #[x, o0, o1, o2, o3, o4, o5, o6] 42 (0, 0))) (v0 v1 v2 v3 v4 v5 v6 : Value) : (((((((W.setCell ⟨g, 1, none⟩ v0).setCell ⟨g, 2, none⟩ v1).setCell ⟨g, 3, none⟩ v2).setCell ⟨g, 4, none⟩ v3).setCell ⟨g, 5, none⟩ v4).setCell ⟨g, 6, none⟩ v5).setCell ⟨g, 7, none⟩ v6).heap[g]? = some (.cells #[x, v0, v1, v2, v3, v4, v5, v6] 42 (0, 0)) := by
 have h1 := blk_set h 1 v0
 have h2 := blk_set h1 2 v1
 have h3 := blk_set h2 3 v2
 have h4 := blk_set h3 4 v3
 have h5 := blk_set h4 5 v4
 have h6 := blk_set h5 6 v5
 have h7 := blk_set h6 7 v6
 simpa using h7
theorem impl_NoteRead.bl7 {w W : World} {g : Nat} (hg : w.heap.size ≤ g) (h : Below w.heap.size w W) (v0 v1 v2 v3 v4 v5 v6 : Value) : Below w.heap.size w (((((((W.setCell ⟨g, 1, none⟩ v0).setCell ⟨g, 2, none⟩ v1).setCell ⟨g, 3, none⟩ v2).setCell ⟨g, 4, none⟩ v3).setCell ⟨g, 5, none⟩ v4).setCell ⟨g, 6, none⟩ v5).setCell ⟨g, 7, none⟩ v6) := (below_set (below_set (below_set (below_set (below_set (below_set (below_set h hg) hg) hg) hg) hg) hg) hg)
theorem impl_NoteRead.far7 {W : World} {g g' : Nat} {t : TypeId} {cs : Array Value} (hn : g' ≠ g) (h : W.heap[g']? = some (.cells cs t (0, 0))) (v0 v1 v2 v3 v4 v5 v6 : Value) : (((((((W.setCell ⟨g, 1, none⟩ v0).setCell ⟨g, 2, none⟩ v1).setCell ⟨g, 3, none⟩ v2).setCell ⟨g, 4, none⟩ v3).setCell ⟨g, 5, none⟩ v4).setCell ⟨g, 6, none⟩ v5).setCell ⟨g, 7, none⟩ v6).heap[g']? = some (.cells cs t (0, 0)) := (blk_far (blk_far (blk_far (blk_far (blk_far (blk_far (blk_far h hn _) hn _) hn _) hn _) hn _) hn _) hn _)
theorem impl_NoteRead.facts {W : World} {g : Nat} (h : W.heap[g]? = some (.cells #[.int .i64 0, .int .i64 0, .int .i64 0, .int .i64 0, .int .i64 0, .int .i64 0, .int .i64 0, .bool false, .int .i64 0] 46 (0, 0))) :
  W.cell? ⟨g, 0, none⟩ = some (.int .i64 0) ∧ W.cell? ⟨g, 1, none⟩ = some (.int .i64 0) ∧ W.cell? ⟨g, 2, none⟩ = some (.int .i64 0) ∧ W.cell? ⟨g, 3, none⟩ = some (.int .i64 0) ∧ W.cell? ⟨g, 4, none⟩ = some (.int .i64 0) ∧ W.cell? ⟨g, 5, none⟩ = some (.int .i64 0) ∧ W.cell? ⟨g, 6, none⟩ = some (.int .i64 0) ∧ W.cell? ⟨g, 7, none⟩ = some (.bool false) ∧ W.cell? ⟨g, 8, none⟩ = some (.int .i64 0) ∧ W.frozen? ⟨g, 0, none⟩ = false ∧ W.frozen? ⟨g, 1, none⟩ = false ∧ W.frozen? ⟨g, 2, none⟩ = false ∧ W.frozen? ⟨g, 3, none⟩ = false ∧ W.frozen? ⟨g, 4, none⟩ = false ∧ W.frozen? ⟨g, 5, none⟩ = false ∧ W.frozen? ⟨g, 6, none⟩ = false ∧ W.frozen? ⟨g, 7, none⟩ = false ∧ W.frozen? ⟨g, 8, none⟩ = false :=
 ⟨(blk_cell h 0).trans rfl, (blk_cell h 1).trans rfl, (blk_cell h 2).trans rfl, (blk_cell h 3).trans rfl, (blk_cell h 4).trans rfl, (blk_cell h 5).trans rfl, (blk_cell h 6).trans rfl, (blk_cell h 7).trans rfl, (blk_cell h 8).trans rfl, blk_frozen h 0, blk_frozen h 1, blk_frozen h 2, blk_frozen h 3, blk_frozen h 4, blk_frozen h 5, blk_frozen h 6, blk_frozen h 7, blk_frozen h 8⟩
set_option maxHeartbeats 1600000 in
set_option maxRecDepth 100000 in
theorem impl_NoteRead.calls (k : Nat) (a0 : ByteArray) (r1 : Int) (r2 : Int) (r3 : Int) (r4 : Int) (r5 : Int) (r6 : Int) (r7 : Int) (r8 : Bool) (r9 : Int) (w : World) (h : impl_NoteRead.f k a0 = some (r1, r2, r3, r4, r5, r6, r7, r8, r9)) :
  Calls Try.prog 25 #[.string a0] w fun e w' => e = .returned (.agg #[.int .i64 r1, .int .i64 r2, .int .i64 r3, .int .i64 r4, .int .i64 r5, .int .i64 r6, .int .i64 r7, .bool r8, .int .i64 r9]) ∧ Below w.heap.size w w' := by
 have hu42 := Try.underlying42
 have hu46 := Try.underlying46
 have hu92 := Try.underlying92
 have hu24 := Try.underlying24
 unfold impl_NoteRead.f at h
 by_cases hsz : a0.size ≤ 8000
 ·rw [if_pos hsz] at h
  have HL := Aside0.mk (show impl_isLong.f a0 = some false by unfold impl_isLong.f; rw [decide_eq_false (by omega)])
  clear hsz
  replace h := Option.bind_eq_some_iff.mp h
  obtain ⟨⟨x1, y1, y2, y3⟩, q1, h⟩ := h
  have Q1 := Aside0.mk q1
  have H := Aside0.mk h
  clear q1 h
  go_enter Try.func25, Try.ntmps25
  go_wp2_with fail
  go_at_call 67
  with_reducible refine (impl_isLong.calls a0 false _ HL.out).mono ?_
  rintro e wl ⟨rfl, hd⟩
  obtain ⟨n, hn⟩ := hd.out
  have bO := Aside0.mk (show wl.heap[w.heap.size]? = some (.cells #[.int .i64 0, .int .i64 0, .int .i64 0, .int .i64 0, .int .i64 0, .int .i64 0, .int .i64 0, .bool false, .int .i64 0] 46 (0, 0)) from hn ▸ blk_drewN (heap_alloc_new w _) n)
  have bl := Aside0.mk (show Below w.heap.size w wl from hn ▸ pw_below_drewN (below_alloc (Below.refl _ _) _) n)
  clear hd hn
  go_wp2_with fail
  go_at_call 85
  with_reducible refine (impl_reader_num.calls k _ a0 0 false x1 y1 y2 y3 w _ (IsS92.new w wl a0 0 false bl.out) (below_alloc bl.out _) Q1.out).mono ?_
  rintro e w1 ⟨rfl, hI, hB, hK⟩
  have bO1 := Aside0.mk (hK.blk (blk_alloc bO.out _) (Nat.ne_of_lt (blk_lt bO.out)) (by simp))
  have HI := Aside0.mk hI
  have bl1 := Aside0.mk hB
  have hne := Aside0.mk (Nat.ne_of_lt (show w.heap.size < w1.heap.size from blk_lt bO1.out))
  clear hI hB hK bO bl Q1 HL
  by_cases h3 : x1 = 3
  ·have hh := H.out
   rw [if_pos h3] at hh
   have H := Aside0.mk hh
   have h3b : (x1 != 3) = false := bne_eq_false_iff_eq.mpr h3
   clear hh h3
   go_upto_region 7 with (fail)
   refine impl_NoteRead.gen (fun W => W.heap[w1.heap.size]? = some (.cells #[.int .i64 x1, .int .i64 0, .int .i64 0, .int .i64 0, .int .i64 0, .int .i64 0, .int .i64 0, .bool false] 42 (0, 0)) ∧ W.heap[w.heap.size]? = some (.cells #[.int .i64 0, .int .i64 0, .int .i64 0, .int .i64 0, .int .i64 0, .int .i64 0, .int .i64 0, .bool false, .int .i64 0] 46 (0, 0)) ∧ Below w.heap.size w W) ⟨blk_new w1 _, blk_alloc bO1.out _, below_alloc bl1.out _⟩ ?_
   rintro W ⟨bx, bo, bl⟩
   have c0 := (blk_cell bx 0).trans rfl
   have c1 := (blk_cell bx 1).trans rfl
   have c2 := (blk_cell bx 2).trans rfl
   have c3 := (blk_cell bx 3).trans rfl
   have c4 := (blk_cell bx 4).trans rfl
   have c5 := (blk_cell bx 5).trans rfl
   have c6 := (blk_cell bx 6).trans rfl
   have c7 := (blk_cell bx 7).trans rfl
   obtain ⟨o0, o1, o2, o3, o4, o5, o6, o7, o8, f0, f1, f2, f3, f4, f5, f6, f7, f8⟩ := impl_NoteRead.facts bo
   have BX := Aside0.mk bx
   have BO := Aside0.mk bo
   have BL := Aside0.mk bl
   clear bx bo bl
   clear bO1 bl1 HI
   by_cases he : a0 = ⟨#[]⟩
   ·have hh := H.out
    rw [if_pos he] at hh
    simp only [Option.some.injEq, Prod.mk.injEq] at hh
    obtain ⟨rfl, rfl, rfl, rfl, rfl, rfl, rfl, rfl, rfl⟩ := hh
    clear H
    subst he
    go_wp2_with fail
    refine bodyPost_ret (results_cell_row rfl _ _ w.heap.size 46 _ (0, 0) _ rfl (impl_NoteRead.fin BO.out _ _ _ _ _ _ _ _ _) Try.underlying46 rfl (by kernel_rfl)) rfl ⟨rfl, impl_NoteRead.set9 BL.out _ _ _ _ _ _ _ _ _⟩
   ·have hh := H.out
    rw [if_neg he] at hh
    replace hh := Option.bind_eq_some_iff.mp hh
    obtain ⟨b, qb, hh⟩ := hh
    have QB := Aside0.mk qb
    have H8 := Aside0.mk hh
    have he1 : (a0.toList == []) = false := by
     have hz := impl_NoteRead.str_ne he
     rwa [show (⟨#[]⟩ : ByteArray).toList = [] from by rw [ByteArray.toList_eq]] at hz
    clear qb hh H he
    go_wp2_with fail
    go_at_call 23
    with_reducible refine (impl_NoteBytes.calls k x1 0 0 0 0 0 0 false b _ QB.out).mono ?_
    rintro e wb ⟨rfl, hb⟩
    have BX1 := Aside0.mk (blk_below BX.out hb)
    have BO1 := Aside0.mk (blk_below BO.out hb)
    have BL1 := Aside0.mk (below_step BL.out hb)
    clear BX BO BL hb
    clear c0 c1 c2 c3 c4 c5 c6 c7 o0 o1 o2 o3 o4 o5 o6 o7 o8 f0 f1 f2 f3 f4 f5 f6 f7 f8
    have c0 := (blk_cell BX1.out 0).trans rfl
    have c1 := (blk_cell BX1.out 1).trans rfl
    have c2 := (blk_cell BX1.out 2).trans rfl
    have c3 := (blk_cell BX1.out 3).trans rfl
    have c4 := (blk_cell BX1.out 4).trans rfl
    have c5 := (blk_cell BX1.out 5).trans rfl
    have c6 := (blk_cell BX1.out 6).trans rfl
    have c7 := (blk_cell BX1.out 7).trans rfl
    obtain ⟨o0, o1, o2, o3, o4, o5, o6, o7, o8, f0, f1, f2, f3, f4, f5, f6, f7, f8⟩ := impl_NoteRead.facts BO1.out
    by_cases hb : b = a0
    ·have hb1 : (b.toList == a0.toList) = true := by rw [hb]; exact beq_self_eq_true _
     have hh := H8.out
     rw [if_pos hb] at hh
     simp only [Option.some.injEq, Prod.mk.injEq] at hh
     obtain ⟨rfl, rfl, rfl, rfl, rfl, rfl, rfl, rfl, rfl⟩ := hh
     clear hb H8
     go_wp2_with fail
     refine bodyPost_ret (results_cell_row rfl _ _ w.heap.size 46 _ (0, 0) _ rfl (impl_NoteRead.fin BO1.out _ _ _ _ _ _ _ _ _) Try.underlying46 rfl (by kernel_rfl)) rfl ⟨rfl, impl_NoteRead.set9 BL1.out _ _ _ _ _ _ _ _ _⟩
    ·have hb1 : (b.toList == a0.toList) = false := impl_NoteRead.str_ne hb
     have hh := H8.out
     rw [if_neg hb] at hh
     simp only [Option.some.injEq, Prod.mk.injEq] at hh
     obtain ⟨rfl, rfl, rfl, rfl, rfl, rfl, rfl, rfl, rfl⟩ := hh
     clear hb H8
     go_wp2_with fail
     refine bodyPost_ret (results_cell_row rfl _ _ w.heap.size 46 _ (0, 0) _ rfl (impl_NoteRead.fin BO1.out _ _ _ _ _ _ _ _ _) Try.underlying46 rfl (by kernel_rfl)) rfl ⟨rfl, impl_NoteRead.set9 BL1.out _ _ _ _ _ _ _ _ _⟩
  ·have hh := H.out
   rw [if_neg h3] at hh
   have h3b : (x1 != 3) = true := bne_iff_ne.mpr h3
   clear h3 H
   replace hh := Option.bind_eq_some_iff.mp hh
   obtain ⟨⟨z1, z2, z3, z4, z5, z6, z7, u1, u2, u3⟩, q2, hh⟩ := hh
   have Q2 := Aside0.mk q2
   have H := Aside0.mk hh
   clear q2 hh
   go_wp2_with fail
   go_at_call 68
   with_reducible refine (impl_reader_route.calls k _ y1 y2 y3 z1 z2 z3 z4 z5 z6 z7 u1 u2 u3 w _ (IsS92.alloc HI.out _) (below_alloc bl1.out _) Q2.out).mono ?_
   rintro e w2 ⟨rfl, hI, hB, hK⟩
   have bO2 := Aside0.mk (hK.blk (blk_alloc bO1.out _) (Ne.symm (HI.out.ne_blk bO1.out (by decide))) (by simp))
   have bX2 := Aside0.mk (hK.blk (blk_new w1 (.cells #[.int .i64 x1, .int .i64 0, .int .i64 0, .int .i64 0, .int .i64 0, .int .i64 0, .int .i64 0, .bool false] 42)) (Nat.ne_of_gt HI.out.lt) (by simp))
   have bl2 := Aside0.mk hB
   have hge := Aside0.mk (bl1.out.size)
   clear hI hB hK bO1 Q2 HI bl1
   have c1 := (blk_cell bX2.out 1).trans rfl
   have fx1 := blk_frozen bX2.out 1
   have c2 := (blk_cell bX2.out 2).trans rfl
   have fx2 := blk_frozen bX2.out 2
   have c3 := (blk_cell bX2.out 3).trans rfl
   have fx3 := blk_frozen bX2.out 3
   have c4 := (blk_cell bX2.out 4).trans rfl
   have fx4 := blk_frozen bX2.out 4
   have c5 := (blk_cell bX2.out 5).trans rfl
   have fx5 := blk_frozen bX2.out 5
   have c6 := (blk_cell bX2.out 6).trans rfl
   have fx6 := blk_frozen bX2.out 6
   have c7 := (blk_cell bX2.out 7).trans rfl
   have fx7 := blk_frozen bX2.out 7
   go_upto_region 7 with (fail)
   refine impl_NoteRead.gen (fun W => W.heap[w1.heap.size]? = some (.cells #[.int .i64 x1, .int .i64 z1, .int .i64 z2, .int .i64 z3, .int .i64 z4, .int .i64 z5, .int .i64 z6, .bool z7] 42 (0, 0)) ∧ W.heap[w.heap.size]? = some (.cells #[.int .i64 0, .int .i64 0, .int .i64 0, .int .i64 0, .int .i64 0, .int .i64 0, .int .i64 0, .bool false, .int .i64 0] 46 (0, 0)) ∧ Below w.heap.size w W) ⟨impl_NoteRead.put7 bX2.out _ _ _ _ _ _ _, impl_NoteRead.far7 hne.out bO2.out _ _ _ _ _ _ _, impl_NoteRead.bl7 hge.out bl2.out _ _ _ _ _ _ _⟩ ?_
   clear c1 c2 c3 c4 c5 c6 c7 fx1 fx2 fx3 fx4 fx5 fx6 fx7
   rintro W ⟨bx, bo, bl⟩
   have c0 := (blk_cell bx 0).trans rfl
   have c1 := (blk_cell bx 1).trans rfl
   have c2 := (blk_cell bx 2).trans rfl
   have c3 := (blk_cell bx 3).trans rfl
   have c4 := (blk_cell bx 4).trans rfl
   have c5 := (blk_cell bx 5).trans rfl
   have c6 := (blk_cell bx 6).trans rfl
   have c7 := (blk_cell bx 7).trans rfl
   obtain ⟨o0, o1, o2, o3, o4, o5, o6, o7, o8, f0, f1, f2, f3, f4, f5, f6, f7, f8⟩ := impl_NoteRead.facts bo
   have BX := Aside0.mk bx
   have BO := Aside0.mk bo
   have BL := Aside0.mk bl
   clear bx bo bl
   clear bO2 bl2 bX2
   by_cases he : a0 = ⟨#[]⟩
   ·have hh := H.out
    rw [if_pos he] at hh
    simp only [Option.some.injEq, Prod.mk.injEq] at hh
    obtain ⟨rfl, rfl, rfl, rfl, rfl, rfl, rfl, rfl, rfl⟩ := hh
    clear H
    subst he
    go_wp2_with fail
    refine bodyPost_ret (results_cell_row rfl _ _ w.heap.size 46 _ (0, 0) _ rfl (impl_NoteRead.fin BO.out _ _ _ _ _ _ _ _ _) Try.underlying46 rfl (by kernel_rfl)) rfl ⟨rfl, impl_NoteRead.set9 BL.out _ _ _ _ _ _ _ _ _⟩
   ·have hh := H.out
    rw [if_neg he] at hh
    replace hh := Option.bind_eq_some_iff.mp hh
    obtain ⟨b, qb, hh⟩ := hh
    have QB := Aside0.mk qb
    have H8 := Aside0.mk hh
    have he1 : (a0.toList == []) = false := by
     have hz := impl_NoteRead.str_ne he
     rwa [show (⟨#[]⟩ : ByteArray).toList = [] from by rw [ByteArray.toList_eq]] at hz
    clear qb hh H he
    go_wp2_with fail
    go_at_call 23
    with_reducible refine (impl_NoteBytes.calls k x1 z1 z2 z3 z4 z5 z6 z7 b _ QB.out).mono ?_
    rintro e wb ⟨rfl, hb⟩
    have BX1 := Aside0.mk (blk_below BX.out hb)
    have BO1 := Aside0.mk (blk_below BO.out hb)
    have BL1 := Aside0.mk (below_step BL.out hb)
    clear BX BO BL hb
    clear c0 c1 c2 c3 c4 c5 c6 c7 o0 o1 o2 o3 o4 o5 o6 o7 o8 f0 f1 f2 f3 f4 f5 f6 f7 f8
    have c0 := (blk_cell BX1.out 0).trans rfl
    have c1 := (blk_cell BX1.out 1).trans rfl
    have c2 := (blk_cell BX1.out 2).trans rfl
    have c3 := (blk_cell BX1.out 3).trans rfl
    have c4 := (blk_cell BX1.out 4).trans rfl
    have c5 := (blk_cell BX1.out 5).trans rfl
    have c6 := (blk_cell BX1.out 6).trans rfl
    have c7 := (blk_cell BX1.out 7).trans rfl
    obtain ⟨o0, o1, o2, o3, o4, o5, o6, o7, o8, f0, f1, f2, f3, f4, f5, f6, f7, f8⟩ := impl_NoteRead.facts BO1.out
    by_cases hb : b = a0
    ·have hb1 : (b.toList == a0.toList) = true := by rw [hb]; exact beq_self_eq_true _
     have hh := H8.out
     rw [if_pos hb] at hh
     simp only [Option.some.injEq, Prod.mk.injEq] at hh
     obtain ⟨rfl, rfl, rfl, rfl, rfl, rfl, rfl, rfl, rfl⟩ := hh
     clear hb H8
     go_wp2_with fail
     refine bodyPost_ret (results_cell_row rfl _ _ w.heap.size 46 _ (0, 0) _ rfl (impl_NoteRead.fin BO1.out _ _ _ _ _ _ _ _ _) Try.underlying46 rfl (by kernel_rfl)) rfl ⟨rfl, impl_NoteRead.set9 BL1.out _ _ _ _ _ _ _ _ _⟩
    ·have hb1 : (b.toList == a0.toList) = false := impl_NoteRead.str_ne hb
     have hh := H8.out
     rw [if_neg hb] at hh
     simp only [Option.some.injEq, Prod.mk.injEq] at hh
     obtain ⟨rfl, rfl, rfl, rfl, rfl, rfl, rfl, rfl, rfl⟩ := hh
     clear hb H8
     go_wp2_with fail
     refine bodyPost_ret (results_cell_row rfl _ _ w.heap.size 46 _ (0, 0) _ rfl (impl_NoteRead.fin BO1.out _ _ _ _ _ _ _ _ _) Try.underlying46 rfl (by kernel_rfl)) rfl ⟨rfl, impl_NoteRead.set9 BL1.out _ _ _ _ _ _ _ _ _⟩
 ·rw [if_neg hsz] at h
  simp only [Option.some.injEq, Prod.mk.injEq] at h
  obtain ⟨rfl, rfl, rfl, rfl, rfl, rfl, rfl, rfl, rfl⟩ := h
  have HL := Aside0.mk (show impl_isLong.f a0 = some true by unfold impl_isLong.f; rw [decide_eq_true (by omega)])
  clear hsz
  go_enter Try.func25, Try.ntmps25
  go_wp2_with fail
  go_at_call 67
  with_reducible refine (impl_isLong.calls a0 true _ HL.out).mono ?_
  rintro e wl ⟨rfl, hd⟩
  obtain ⟨n, hn⟩ := hd.out
  have BO1 := Aside0.mk (show wl.heap[w.heap.size]? = some (.cells #[.int .i64 0, .int .i64 0, .int .i64 0, .int .i64 0, .int .i64 0, .int .i64 0, .int .i64 0, .bool false, .int .i64 0] 46 (0, 0)) from hn ▸ blk_drewN (heap_alloc_new w _) n)
  have BL1 := Aside0.mk (show Below w.heap.size w wl from hn ▸ pw_below_drewN (below_alloc (Below.refl _ _) _) n)
  clear hd hn
  obtain ⟨o0, o1, o2, o3, o4, o5, o6, o7, o8, f0, f1, f2, f3, f4, f5, f6, f7, f8⟩ := impl_NoteRead.facts BO1.out
  go_wp2_with fail
  refine bodyPost_ret (results_cell_row rfl _ _ w.heap.size 46 _ (0, 0) _ rfl (impl_NoteRead.fin BO1.out _ _ _ _ _ _ _ _ _) Try.underlying46 rfl (by kernel_rfl)) rfl ⟨rfl, impl_NoteRead.set9 BL1.out _ _ _ _ _ _ _ _ _⟩
end Go.Proofs.Ytbanbmkfdkbfiaa.PFnNote
