-- Written by a program of this session (wip/ep), out of the translation. Lean checks it.
import Derived.Test.YtkbhdiambabnnaaPFnExactPipeHearx0
import Derived.Test.YtkbhdiambabnnaaPFnExactPipeHearx5
namespace Go.Proofs.Ytkbhdiambabnnaa.PFnExactPipeHear
open Go.RowKit Go.Proofs.YtkbhdiambabnnaaW.PrintWords Go.Proofs.YtkbhdiambabnnaaW.PrintLast Go.Proofs.YtkbhdiambabnnaaW.PrintMore
attribute [local go_sem] max2_int min2_int max_two min_two max_three min_three max_four min_four   -- for this text's walks alone
set_option linter.unusedVariables false
set_option linter.unusedSimpArgs false

/-! ### impl_PipeHear: function 75 -/
def impl_PipeHear.ack (b : Int) (l : List ByteArray) (x3 : Int) : Option (Int × List ByteArray) :=
  if 1 ≤ wrap64 (x3 - b) ∧ wrap64 (x3 - b) ≤ (l.length : Int) then (slices_Clone_string_string.f (l.drop (wrap64 (x3 - b)).toNat)).bind fun m => some (x3, m) else some (b, l)
def impl_PipeHear.go (e p b n : Int) (l : List ByteArray) (fr : Bool) (x1 x2 x3 : Int) (x4 : ByteArray) : Option (Int × Int × Int × Int × List ByteArray × List ByteArray × Bool) :=
  if x1 = e then (impl_PipeHear.ack b l x3).bind fun y => if x2 = wrap64 (n + 1) then some (e, p, y.1, x2, y.2, [x4], fr) else some (e, p, y.1, n, y.2, [], fr)
  else some (e, p, b, n, l, [], fr)
def impl_PipeHear.hf (e p b n : Int) (l : List ByteArray) (x0 x1 x2 x3 : Int) (x4 : ByteArray) : Option (Int × Int × Int × Int × List ByteArray × List ByteArray × Bool) :=
  if x0 < p then some (e, p, b, n, l, [], false) else
  if p < x0 then impl_PipeHear.go e x0 0 0 [] true x1 x2 x3 x4 else impl_PipeHear.go e p b n l false x1 x2 x3 x4
structure impl_PipeHear.PS (w0 W0 W : World) (g : Nat) (a1_0 a1_1 a1_2 a1_3 : Int) (a1_4 : ByteArray) (e p b n : Int) (A : Option Addr) (c : Nat) (l : List ByteArray) : Prop where
  bx : W.heap[W0.heap.size]? = some (.cells #[.int .i64 a1_0, .int .i64 a1_1, .int .i64 a1_2, .int .i64 a1_3, .string a1_4] 35 (0, 0))
  b5 : W.heap[g]? = some (.cells #[.int .i64 e, .int .i64 p, .int .i64 b, .int .i64 n, .slice A l.length c] 24 (0, 0))
  ho : Kd.R Kd.string 9 W w0.heap.size (fun _ => True) (.slice A l.length c) l
  hg : w0.heap.size ≤ g
  bl : Below w0.heap.size w0 W
  kp : ∀ (k : Nat) (cs : Array Value) (ty : TypeId), W0.heap[k]? = some (.cells cs ty (0, 0)) → k ≠ g → ty ≠ 9 → W.heap[k]? = some (.cells cs ty (0, 0))
theorem impl_PipeHear.PS.below {w0 W0 W W1 : World} {g : Nat} {a1_0 a1_1 a1_2 a1_3 : Int} {a1_4 : ByteArray} {e p b n : Int} {A : Option Addr} {c : Nat} {l : List ByteArray} (h : impl_PipeHear.PS w0 W0 W g a1_0 a1_1 a1_2 a1_3 a1_4 e p b n A c l) (hb : Below W.heap.size W W1) : impl_PipeHear.PS w0 W0 W1 g a1_0 a1_1 a1_2 a1_3 a1_4 e p b n A c l :=
  ⟨blk_below h.bx hb, blk_below h.b5 hb, Kd.R_below h.ho hb, h.hg, below_step h.bl hb, fun k cs ty h1 h2 h3 => blk_below (h.kp k cs ty h1 h2 h3) hb⟩
theorem impl_PipeHear.PS.drewN {w0 W0 W : World} {g : Nat} {a1_0 a1_1 a1_2 a1_3 : Int} {a1_4 : ByteArray} {e p b n : Int} {A : Option Addr} {c : Nat} {l : List ByteArray} (h : impl_PipeHear.PS w0 W0 W g a1_0 a1_1 a1_2 a1_3 a1_4 e p b n A c l) (m : Nat) : impl_PipeHear.PS w0 W0 (W.drewN m) g a1_0 a1_1 a1_2 a1_3 a1_4 e p b n A c l := h.below (pw_below_drewN (Below.refl _ _) m)
theorem impl_PipeHear.PS.drew {w0 W0 W : World} {g : Nat} {a1_0 a1_1 a1_2 a1_3 : Int} {a1_4 : ByteArray} {e p b n : Int} {A : Option Addr} {c : Nat} {l : List ByteArray} (h : impl_PipeHear.PS w0 W0 W g a1_0 a1_1 a1_2 a1_3 a1_4 e p b n A c l) : impl_PipeHear.PS w0 W0 W.drew g a1_0 a1_1 a1_2 a1_3 a1_4 e p b n A c l := h.below (below_drew1 (Below.refl _ _))
theorem impl_PipeHear.PS.store {w0 W0 W : World} {g : Nat} {a1_0 a1_1 a1_2 a1_3 : Int} {a1_4 : ByteArray} {e p b n : Int} {A : Option Addr} {c : Nat} {l : List ByteArray} (h : impl_PipeHear.PS w0 W0 W g a1_0 a1_1 a1_2 a1_3 a1_4 e p b n A c l) (j : Nat) (u : Value) (cs : Array Value) (hcs : (#[.int .i64 e, .int .i64 p, .int .i64 b, .int .i64 n, .slice A l.length c] : Array Value).setIfInBounds j u = cs) :
    (W.setCell ⟨g, j, none⟩ u).heap[W0.heap.size]? = some (.cells #[.int .i64 a1_0, .int .i64 a1_1, .int .i64 a1_2, .int .i64 a1_3, .string a1_4] 35 (0, 0)) ∧ (W.setCell ⟨g, j, none⟩ u).heap[g]? = some (.cells cs 24 (0, 0)) ∧ Kd.R Kd.string 9 (W.setCell ⟨g, j, none⟩ u) w0.heap.size (fun _ => True) (.slice A l.length c) l ∧ Below w0.heap.size w0 (W.setCell ⟨g, j, none⟩ u) ∧ ∀ (k : Nat) (cs : Array Value) (ty : TypeId), W0.heap[k]? = some (.cells cs ty (0, 0)) → k ≠ g → ty ≠ 9 → (W.setCell ⟨g, j, none⟩ u).heap[k]? = some (.cells cs ty (0, 0)) :=
  ⟨blk_far h.bx (blk_ne h.bx h.b5 (by decide)) u, blk_put h.b5 j u hcs, Kd.R_mono (Kd.R_far (p := ⟨g, j, none⟩) (Kd.R_types h.ho h.b5 (by decide)) (fun _ hk => hk.2) u) (fun _ _ => trivial), below_set h.bl h.hg, fun k cs ty h1 h2 h3 => blk_far (h.kp k cs ty h1 h2 h3) h2 u⟩
theorem impl_PipeHear.PS.sp {w0 W0 W : World} {g : Nat} {a1_0 a1_1 a1_2 a1_3 : Int} {a1_4 : ByteArray} {e p b n : Int} {A : Option Addr} {c : Nat} {l : List ByteArray} (h : impl_PipeHear.PS w0 W0 W g a1_0 a1_1 a1_2 a1_3 a1_4 e p b n A c l) (x : Int) : impl_PipeHear.PS w0 W0 (W.setCell ⟨g, 1, none⟩ (.int .i64 x)) g a1_0 a1_1 a1_2 a1_3 a1_4 e x b n A c l := by
  obtain ⟨h1, h2, h3, h4, h5⟩ := h.store 1 (.int .i64 x) _ rfl
  exact ⟨h1, h2, h3, h.hg, h4, h5⟩
theorem impl_PipeHear.PS.sb {w0 W0 W : World} {g : Nat} {a1_0 a1_1 a1_2 a1_3 : Int} {a1_4 : ByteArray} {e p b n : Int} {A : Option Addr} {c : Nat} {l : List ByteArray} (h : impl_PipeHear.PS w0 W0 W g a1_0 a1_1 a1_2 a1_3 a1_4 e p b n A c l) (x : Int) : impl_PipeHear.PS w0 W0 (W.setCell ⟨g, 2, none⟩ (.int .i64 x)) g a1_0 a1_1 a1_2 a1_3 a1_4 e p x n A c l := by
  obtain ⟨h1, h2, h3, h4, h5⟩ := h.store 2 (.int .i64 x) _ rfl
  exact ⟨h1, h2, h3, h.hg, h4, h5⟩
theorem impl_PipeHear.PS.sn {w0 W0 W : World} {g : Nat} {a1_0 a1_1 a1_2 a1_3 : Int} {a1_4 : ByteArray} {e p b n : Int} {A : Option Addr} {c : Nat} {l : List ByteArray} (h : impl_PipeHear.PS w0 W0 W g a1_0 a1_1 a1_2 a1_3 a1_4 e p b n A c l) (x : Int) : impl_PipeHear.PS w0 W0 (W.setCell ⟨g, 3, none⟩ (.int .i64 x)) g a1_0 a1_1 a1_2 a1_3 a1_4 e p b x A c l := by
  obtain ⟨h1, h2, h3, h4, h5⟩ := h.store 3 (.int .i64 x) _ rfl
  exact ⟨h1, h2, h3, h.hg, h4, h5⟩
theorem impl_PipeHear.PS.nil {w0 W0 W : World} {g : Nat} {a1_0 a1_1 a1_2 a1_3 : Int} {a1_4 : ByteArray} {e p b n : Int} {A : Option Addr} {c : Nat} {l : List ByteArray} (h : impl_PipeHear.PS w0 W0 W g a1_0 a1_1 a1_2 a1_3 a1_4 e p b n A c l) : impl_PipeHear.PS w0 W0 (W.setCell ⟨g, 4, none⟩ (.slice none 0 0)) g a1_0 a1_1 a1_2 a1_3 a1_4 e p b n none 0 [] := by
  obtain ⟨h1, h2, h3, h4, h5⟩ := h.store 4 (.slice none 0 0) _ rfl
  exact ⟨h1, h2, Kd.R_nil _ _ _ _ _, h.hg, h4, h5⟩
theorem impl_PipeHear.PS.row {w0 W0 W : World} {g : Nat} {a1_0 a1_1 a1_2 a1_3 : Int} {a1_4 : ByteArray} {e p b n : Int} {A : Option Addr} {c : Nat} {l : List ByteArray} {A1 : Option Addr} {c1 : Nat} {l1 : List ByteArray} (h : impl_PipeHear.PS w0 W0 W g a1_0 a1_1 a1_2 a1_3 a1_4 e p b n A c l) (h1 : Kd.R Kd.string 9 W w0.heap.size (fun _ => True) (.slice A1 l1.length c1) l1) : impl_PipeHear.PS w0 W0 (W.setCell ⟨g, 4, none⟩ (.slice A1 l1.length c1)) g a1_0 a1_1 a1_2 a1_3 a1_4 e p b n A1 c1 l1 := by
  obtain ⟨q1, q2, _, q4, q5⟩ := h.store 4 (.slice A1 l1.length c1) _ rfl
  exact ⟨q1, q2, Kd.R_mono (Kd.R_far (p := ⟨g, 4, none⟩) (Kd.R_types h1 h.b5 (by decide)) (fun _ hk => hk.2) _) (fun _ _ => trivial), h.hg, q4, q5⟩
theorem impl_PipeHear.PS.held {w0 W0 W : World} {g : Nat} {a1_0 a1_1 a1_2 a1_3 : Int} {a1_4 : ByteArray} {e p b n : Int} {A : Option Addr} {c : Nat} {l : List ByteArray} (h : impl_PipeHear.PS w0 W0 W g a1_0 a1_1 a1_2 a1_3 a1_4 e p b n A c l) : W.cell? ⟨W0.heap.size, 3, none⟩ = some (.int .i64 a1_3) := (blk_cell h.bx 3).trans rfl
theorem impl_PipeHear.gen {P : Program} {c : Code} {Q : Exit → Act → World → Prop} {a : Act} {W : World} (p : World → Prop) (h : p W) (k : ∀ W1, p W1 → Code.wp P c Q a W1) : Code.wp P c Q a W := k W h
theorem impl_PipeHear.cut (A : Option Addr) (c : Nat) (l : List ByteArray) (j : Int) (h0 : 0 ≤ j) (h1 : j ≤ l.length) (hc : l.length ≤ c) : ∃ A' : Option Addr, (∀ W : World, (Instr.slice 22 (.slice A l.length c) (some (.int .i64 j)) none none).run Try.prog W = .ok (.slice A' (l.drop j.toNat).length (c - j.toNat)) W) ∧ (∀ w : World, Kd.C Kd.string w A l.length l → Kd.C Kd.string w A' (l.drop j.toNat).length (l.drop j.toNat)) ∧ (l.drop j.toNat).length ≤ c - j.toNat := by
  obtain ⟨i0, hi, hzz⟩ := Option.map_eq_some_iff.1 info9
  simp only [Prod.mk.injEq] at hzz
  obtain ⟨A', h1, h2, h3⟩ := print_drop_of (P := Try.prog) Value.string ByteArray.empty 22 9 .i64 Try.underlying22 hi hzz.2.1 A c l j h0 h1 hc
  exact ⟨A', h1, fun w h => Kd.C_of_reads (d := ByteArray.empty) (h1 := fun _ => rfl) (h2 w (Kd.reads_of_C (h1 := fun _ => rfl) h)), h3⟩
theorem impl_PipeHear.lit1 (V : World) (t : ByteArray) (base : Nat) (hb : base ≤ V.heap.size) : Kd.R Kd.string 9 (V.alloc (.cells #[.string t] 9)) base (fun k => k = V.heap.size) (.slice (some ⟨V.heap.size, 0, none⟩) 1 1) [t] :=
  ⟨fun k hk => by simp only [Value.ownBlock, Option.some.injEq] at hk; exact hk.symm, [.string t], World.ownsRow_lit V #[.string t] 1 hb (by decide) rfl, Reps.one rfl (Reps.none _ _)⟩
theorem impl_PipeHear.inT {x y : Int} (k : 1 ≤ x ∧ x ≤ y) : impl_in.f x 1 y = some true := by
  unfold impl_in.f; rw [if_pos k.1, decide_eq_true k.2]
theorem impl_PipeHear.inF {x y : Int} (k : ¬ (1 ≤ x ∧ x ≤ y)) : impl_in.f x 1 y = some false := by
  unfold impl_in.f
  by_cases z : 1 ≤ x
  · rw [if_pos z, decide_eq_false (fun z2 => k ⟨z, z2⟩)]
  · rw [if_neg z]
theorem impl_PipeHear.tab10 : rtab .any (opsOf Try.f135 10) = rtab .any (opsOf Try.f135 10) := rfl
/-- What holds behind hear. -/
def impl_PipeHear.Post (w0 W0 : World) (g : Nat) (e p b n : Int) (l t : List ByteArray) (fr : Bool) (e' : Ending) (w' : World) : Prop := ∃ v vt : Value, e' = .returned (.tuple #[vt, .bool fr]) ∧ w'.heap[g]? = some (.cells #[.int .i64 e, .int .i64 p, .int .i64 b, .int .i64 n, v] 24 (0, 0)) ∧ Kd.R Kd.string 9 w' w0.heap.size (fun k_ => some k_ ≠ vt.ownBlock) v l ∧ Kd.R Kd.string 9 w' w0.heap.size (fun k_ => some k_ ≠ v.ownBlock) vt t ∧ Below w0.heap.size w0 w' ∧ ∀ (k : Nat) (cs : Array Value) (ty : TypeId), W0.heap[k]? = some (.cells cs ty (0, 0)) → k ≠ g → ty ≠ 9 → w'.heap[k]? = some (.cells cs ty (0, 0))
theorem impl_PipeHear.PS.none {w0 W0 W : World} {g : Nat} {a1_0 a1_1 a1_2 a1_3 : Int} {a1_4 : ByteArray} {e p b n : Int} {A : Option Addr} {c : Nat} {l : List ByteArray} (h : impl_PipeHear.PS w0 W0 W g a1_0 a1_1 a1_2 a1_3 a1_4 e p b n A c l) (fr : Bool) : impl_PipeHear.Post w0 W0 g e p b n l [] fr (.returned (.tuple #[.slice none 0 0, .bool fr])) W :=
  ⟨_, _, rfl, h.b5, Kd.R_mono h.ho (fun k hk => by simp [Value.ownBlock]), Kd.R_nil _ _ _ _ _, h.bl, h.kp⟩
theorem impl_PipeHear.PS.one {w0 W0 W : World} {g : Nat} {a1_0 a1_1 a1_2 a1_3 : Int} {a1_4 : ByteArray} {e p b n : Int} {A : Option Addr} {c : Nat} {l : List ByteArray} (h : impl_PipeHear.PS w0 W0 W g a1_0 a1_1 a1_2 a1_3 a1_4 e p b n A c l) (fr : Bool) : impl_PipeHear.Post w0 W0 g e p b n l [a1_4] fr (.returned (.tuple #[.slice (some ⟨W.heap.size, 0, Option.none⟩) 1 1, .bool fr])) (W.alloc (.cells #[.string a1_4] 9)) := by
  have hlt : ∀ k, (Value.slice A l.length c).ownBlock = some k → k < W.heap.size := fun k hk => ((Kd.R_bound h.ho).1 k hk).2.2.1
  refine ⟨_, _, rfl, blk_alloc h.b5 _, Kd.R_mono (Kd.R_alloc (Kd.R_bound h.ho) _) (fun k hk => ?_), Kd.R_mono (impl_PipeHear.lit1 W a1_4 w0.heap.size h.bl.size) (fun k hk => ?_), below_alloc h.bl _, fun k cs ty h1 h2 h3 => blk_alloc (h.kp k cs ty h1 h2 h3) _⟩
  · have := hk.2.2.1
    simp only [Value.ownBlock, ne_eq, Option.some.injEq]
    omega
  · intro e_
    have := hlt k e_.symm
    omega
set_option maxHeartbeats 3200000 in
set_option maxRecDepth 100000 in
theorem impl_PipeHear.hear {w0 W0 : World} {g : Nat} (a1_0 a1_1 a1_2 a1_3 : Int) (a1_4 : ByteArray) (e p_ b_ n_ : Int) (A_ : Option Addr) (c_ : Nat) (l_ : List ByteArray) (r1 r2 r3 r4 : Int) (r5 r6 : List ByteArray) (r7 : Bool) (hb5 : W0.heap[g]? = some (.cells #[.int .i64 e, .int .i64 p_, .int .i64 b_, .int .i64 n_, .slice A_ l_.length c_] 24 (0, 0))) (hho : Kd.R Kd.string 9 W0 w0.heap.size (fun _ => True) (.slice A_ l_.length c_) l_) (hhg : w0.heap.size ≤ g) (hbl : Below w0.heap.size w0 W0)
    (h : impl_PipeHear.hf e p_ b_ n_ l_ a1_0 a1_1 a1_2 a1_3 a1_4 = some (r1, r2, r3, r4, r5, r6, r7)) : Calls Try.prog 135 #[.pointer (some ⟨g, 0, none⟩), .agg #[.int .i64 a1_0, .int .i64 a1_1, .int .i64 a1_2, .int .i64 a1_3, .string a1_4]] W0 (impl_PipeHear.Post w0 W0 g r1 r2 r3 r4 r5 r6 r7) := by
  have hu24 := Try.underlying24
  have hu35 := Try.underlying35
  unfold impl_PipeHear.hf at h
  have H := Aside0.mk h
  clear h
  have S00 := Aside0.mk (show impl_PipeHear.PS w0 W0 (W0.alloc (.cells #[.int .i64 a1_0, .int .i64 a1_1, .int .i64 a1_2, .int .i64 a1_3, .string a1_4] 35)) g a1_0 a1_1 a1_2 a1_3 a1_4 e p_ b_ n_ A_ c_ l_ from ⟨blk_new W0 _, blk_alloc hb5 _, Kd.R_alloc hho _, hhg, below_alloc hbl _, fun k cs ty h1 _ _ => blk_alloc h1 _⟩)
  clear hb5 hho hhg hbl
  go_enter Try.func135, Try.ntmps135
  go_upto_region 1 with (fail)
  refine impl_PipeHear.gen (fun W => impl_PipeHear.PS w0 W0 W g a1_0 a1_1 a1_2 a1_3 a1_4 e p_ b_ n_ A_ c_ l_) S00.out ?_
  clear S00
  intro W1 h_
  have S0 := Aside0.mk h_
  clear h_
  have q0 := (blk_cell S0.out.b5 0).trans rfl
  have q1 := (blk_cell S0.out.b5 1).trans rfl
  have q2 := (blk_cell S0.out.b5 2).trans rfl
  have q3 := (blk_cell S0.out.b5 3).trans rfl
  have q4 := (blk_cell S0.out.b5 4).trans rfl
  have fz0 := blk_frozen S0.out.b5 0
  have fz1 := blk_frozen S0.out.b5 1
  have fz2 := blk_frozen S0.out.b5 2
  have fz3 := blk_frozen S0.out.b5 3
  have fz4 := blk_frozen S0.out.b5 4
  have x0 := (blk_cell S0.out.bx 0).trans rfl
  have x1 := (blk_cell S0.out.bx 1).trans rfl
  have x2 := (blk_cell S0.out.bx 2).trans rfl
  have x3 := (blk_cell S0.out.bx 3).trans rfl
  have x4 := (blk_cell S0.out.bx 4).trans rfl
  by_cases c1 : a1_0 < p_
  · have h := H.out
    rw [if_pos c1] at h
    have H := Aside0.mk h
    clear h
    have d0c1 : decide (a1_0 < p_) = true := decide_eq_true c1
    clear c1
    go_upto_region 1 with (fail)
    go_quiet (fail)
    go_upto_region 2 with (fail)
    refine impl_PipeHear.gen (fun W => impl_PipeHear.PS w0 W0 W g a1_0 a1_1 a1_2 a1_3 a1_4 e p_ b_ n_ A_ c_ l_) (S0.out.drewN _) ?_
    clear q0 fz0 x0 q1 fz1 x1 q2 fz2 x2 q3 fz3 x3 q4 fz4 x4
    clear S0
    intro WA h_
    have SA := Aside0.mk h_
    clear h_
    have h := H.out
    simp only [Option.some.injEq, Prod.mk.injEq] at h
    obtain ⟨rfl, rfl, rfl, rfl, rfl, rfl, rfl⟩ := h
    clear H
    (try go_wp2_with fail)
    go_ret2
    exact SA.out.none _
  · have h := H.out
    rw [if_neg c1] at h
    have H := Aside0.mk h
    clear h
    have d0c1 : decide (a1_0 < p_) = false := decide_eq_false c1
    clear c1
    go_upto_region 1 with (fail)
    go_quiet (fail)
    go_upto_region 3 with (fail)
    refine impl_PipeHear.gen (fun W => impl_PipeHear.PS w0 W0 W g a1_0 a1_1 a1_2 a1_3 a1_4 e p_ b_ n_ A_ c_ l_) (S0.out.drewN _) ?_
    clear q0 fz0 x0 q1 fz1 x1 q2 fz2 x2 q3 fz3 x3 q4 fz4 x4
    clear S0
    intro WA h_
    have SA := Aside0.mk h_
    clear h_
    have q0 := (blk_cell SA.out.b5 0).trans rfl
    have q1 := (blk_cell SA.out.b5 1).trans rfl
    have q2 := (blk_cell SA.out.b5 2).trans rfl
    have q3 := (blk_cell SA.out.b5 3).trans rfl
    have q4 := (blk_cell SA.out.b5 4).trans rfl
    have fz0 := blk_frozen SA.out.b5 0
    have fz1 := blk_frozen SA.out.b5 1
    have fz2 := blk_frozen SA.out.b5 2
    have fz3 := blk_frozen SA.out.b5 3
    have fz4 := blk_frozen SA.out.b5 4
    have x0 := (blk_cell SA.out.bx 0).trans rfl
    have x1 := (blk_cell SA.out.bx 1).trans rfl
    have x2 := (blk_cell SA.out.bx 2).trans rfl
    have x3 := (blk_cell SA.out.bx 3).trans rfl
    have x4 := (blk_cell SA.out.bx 4).trans rfl
    by_cases c2 : p_ < a1_0
    · have h := H.out
      rw [if_pos c2] at h
      have H := Aside0.mk h
      clear h
      have d0c2 : decide (p_ < a1_0) = true := decide_eq_true c2
      clear c2
      go_upto_region 3 with (fail)
      go_quiet (fail)
      go_upto_region 5 with (fail)
      refine impl_PipeHear.gen (fun W => impl_PipeHear.PS w0 W0 W g a1_0 a1_1 a1_2 a1_3 a1_4 e p_ b_ n_ A_ c_ l_) (SA.out.drewN _) ?_
      clear q0 fz0 x0 q1 fz1 x1 q2 fz2 x2 q3 fz3 x3 q4 fz4 x4
      clear SA
      intro WB h_
      have SB := Aside0.mk h_
      clear h_
      have q0 := (blk_cell SB.out.b5 0).trans rfl
      have q1 := (blk_cell SB.out.b5 1).trans rfl
      have q2 := (blk_cell SB.out.b5 2).trans rfl
      have q3 := (blk_cell SB.out.b5 3).trans rfl
      have q4 := (blk_cell SB.out.b5 4).trans rfl
      have fz0 := blk_frozen SB.out.b5 0
      have fz1 := blk_frozen SB.out.b5 1
      have fz2 := blk_frozen SB.out.b5 2
      have fz3 := blk_frozen SB.out.b5 3
      have fz4 := blk_frozen SB.out.b5 4
      have x0 := (blk_cell SB.out.bx 0).trans rfl
      have x1 := (blk_cell SB.out.bx 1).trans rfl
      have x2 := (blk_cell SB.out.bx 2).trans rfl
      have x3 := (blk_cell SB.out.bx 3).trans rfl
      have x4 := (blk_cell SB.out.bx 4).trans rfl
      go_upto_region 6 with (fail)
      refine impl_PipeHear.gen (fun W => ∃ (b n : Int) (A : Option Addr) (c : Nat) (l : List ByteArray), impl_PipeHear.PS w0 W0 W g a1_0 a1_1 a1_2 a1_3 a1_4 e a1_0 b n A c l ∧ impl_PipeHear.go e a1_0 b n l true a1_1 a1_2 a1_3 a1_4 = some (r1, r2, r3, r4, r5, r6, r7)) ⟨0, 0, none, 0, [], ((((SB.out.sp a1_0).sb 0).sn 0).nil), H.out⟩ ?_
      clear q0 fz0 x0 q1 fz1 x1 q2 fz2 x2 q3 fz3 x3 q4 fz4 x4
      clear SB H
      rintro W7 ⟨b_, n_, A_, c_, l_, h_, hh_⟩
      have S7 := Aside0.mk h_
      have H := Aside0.mk hh_
      clear h_ hh_
      have h := H.out
      unfold impl_PipeHear.go at h
      have H := Aside0.mk h
      clear h
      by_cases ce : a1_1 = e
      · have h := H.out
        rw [if_pos ce] at h
        have H := Aside0.mk h
        clear h
        have d0ce : (a1_1 != e) = false := bne_eq_false_iff_eq.mpr ce
        have d1ce : (a1_1 == e) = true := beq_iff_eq.mpr ce
        clear ce
        have q0 := (blk_cell S7.out.b5 0).trans rfl
        have q1 := (blk_cell S7.out.b5 1).trans rfl
        have q2 := (blk_cell S7.out.b5 2).trans rfl
        have q3 := (blk_cell S7.out.b5 3).trans rfl
        have q4 := (blk_cell S7.out.b5 4).trans rfl
        have fz0 := blk_frozen S7.out.b5 0
        have fz1 := blk_frozen S7.out.b5 1
        have fz2 := blk_frozen S7.out.b5 2
        have fz3 := blk_frozen S7.out.b5 3
        have fz4 := blk_frozen S7.out.b5 4
        have x0 := (blk_cell S7.out.bx 0).trans rfl
        have x1 := (blk_cell S7.out.bx 1).trans rfl
        have x2 := (blk_cell S7.out.bx 2).trans rfl
        have x3 := (blk_cell S7.out.bx 3).trans rfl
        have x4 := (blk_cell S7.out.bx 4).trans rfl
        go_upto_region 6 with (fail)
        go_quiet (fail)
        go_upto_region 8 with (fail)
        refine impl_PipeHear.gen (fun W => impl_PipeHear.PS w0 W0 W g a1_0 a1_1 a1_2 a1_3 a1_4 e a1_0 b_ n_ A_ c_ l_) (S7.out.drewN _) ?_
        clear q0 fz0 x0 q1 fz1 x1 q2 fz2 x2 q3 fz3 x3 q4 fz4 x4
        clear S7
        intro X0 h_
        have S0_ := Aside0.mk h_
        clear h_
        have q0 := (blk_cell S0_.out.b5 0).trans rfl
        have q1 := (blk_cell S0_.out.b5 1).trans rfl
        have q2 := (blk_cell S0_.out.b5 2).trans rfl
        have q3 := (blk_cell S0_.out.b5 3).trans rfl
        have q4 := (blk_cell S0_.out.b5 4).trans rfl
        have fz0 := blk_frozen S0_.out.b5 0
        have fz1 := blk_frozen S0_.out.b5 1
        have fz2 := blk_frozen S0_.out.b5 2
        have fz3 := blk_frozen S0_.out.b5 3
        have fz4 := blk_frozen S0_.out.b5 4
        have x0 := (blk_cell S0_.out.bx 0).trans rfl
        have x1 := (blk_cell S0_.out.bx 1).trans rfl
        have x2 := (blk_cell S0_.out.bx 2).trans rfl
        have x3 := (blk_cell S0_.out.bx 3).trans rfl
        have x4 := (blk_cell S0_.out.bx 4).trans rfl
        go_upto_region 8 with (fail)
        go_quiet (fail)
        go_upto_region 9 with (fail)
        refine impl_PipeHear.gen (fun W => impl_PipeHear.PS w0 W0 W g a1_0 a1_1 a1_2 a1_3 a1_4 e a1_0 b_ n_ A_ c_ l_) (S0_.out.drewN _) ?_
        clear q0 fz0 x0 q1 fz1 x1 q2 fz2 x2 q3 fz3 x3 q4 fz4 x4
        clear S0_
        intro X1 h_
        have S1_ := Aside0.mk h_
        clear h_
        have H1 := H.out
        replace H1 := Option.bind_eq_some_iff.mp H1
        obtain ⟨⟨b2_, l2_⟩, qa, h⟩ := H1
        have H := Aside0.mk h
        clear h
        unfold impl_PipeHear.ack at qa
        have hcl : l_.length ≤ c_ := (Kd.R_reads' S1_.out.ho).2.1
        have q0 := (blk_cell S1_.out.b5 0).trans rfl
        have q1 := (blk_cell S1_.out.b5 1).trans rfl
        have q2 := (blk_cell S1_.out.b5 2).trans rfl
        have q3 := (blk_cell S1_.out.b5 3).trans rfl
        have q4 := (blk_cell S1_.out.b5 4).trans rfl
        have fz0 := blk_frozen S1_.out.b5 0
        have fz1 := blk_frozen S1_.out.b5 1
        have fz2 := blk_frozen S1_.out.b5 2
        have fz3 := blk_frozen S1_.out.b5 3
        have fz4 := blk_frozen S1_.out.b5 4
        have x0 := (blk_cell S1_.out.bx 0).trans rfl
        have x1 := (blk_cell S1_.out.bx 1).trans rfl
        have x2 := (blk_cell S1_.out.bx 2).trans rfl
        have x3 := (blk_cell S1_.out.bx 3).trans rfl
        have x4 := (blk_cell S1_.out.bx 4).trans rfl
        go_wp2_with fail
        go_at_call 94
        by_cases k1 : 1 ≤ wrap64 (a1_3 - b_) ∧ wrap64 (a1_3 - b_) ≤ (l_.length : Int)
        · rw [if_pos k1] at qa
          replace qa := Option.bind_eq_some_iff.mp qa
          obtain ⟨m_, qm, qa⟩ := qa
          simp only [Option.some.injEq, Prod.mk.injEq] at qa
          obtain ⟨rfl, rfl⟩ := qa
          have hin : impl_in.f (wrap64 (a1_3 - b_)) 1 (l_.length : Int) = some true := impl_PipeHear.inT k1
          refine (impl_in.calls _ _ _ _ _ hin).mono ?_
          rintro e1_ w1_ ⟨rfl, hd⟩
          obtain ⟨m1, hm1⟩ := hd.out
          have S2_ := Aside0.mk (show impl_PipeHear.PS w0 W0 w1_ g a1_0 a1_1 a1_2 a1_3 a1_4 e a1_0 b_ n_ A_ c_ l_ from hm1 ▸ S1_.out.drewN m1)
          clear hd hm1 hin
          clear q0 fz0 x0 q1 fz1 x1 q2 fz2 x2 q3 fz3 x3 q4 fz4 x4
          clear S1_
          obtain ⟨A', hsl, hrd, hle⟩ := impl_PipeHear.cut A_ c_ l_ (wrap64 (a1_3 - b_)) (by omega) k1.2 hcl
          have HRD := Aside0.mk hrd
          have HLE := Aside0.mk hle
          clear hrd hle k1
          obtain ⟨l3, hl3⟩ : ∃ l3, l3 = l_.drop (wrap64 (a1_3 - b_)).toNat := ⟨_, rfl⟩
          rw [← hl3] at qm hsl HRD HLE
          clear hl3
          obtain ⟨c', hc'⟩ : ∃ c', c' = c_ - (wrap64 (a1_3 - b_)).toNat := ⟨_, rfl⟩
          rw [← hc'] at hsl HLE
          clear hc'
          have QM := Aside0.mk qm
          clear qm
          go_upto_region 10 with (fail)
          have hq4_ := (blk_cell S2_.out.b5 4).trans rfl
          clear hq4_
          refine start_ (n := 17) (S := (fun w' => w'.cell? ⟨W0.heap.size, 3, none⟩ = some (.int .i64 a1_3))) (ds := []) #[false, false, false, false, false, false, false, false, false, false, false, false, false, false, false, false, false] (by kernel_rfl) rfl rfl S2_.out.drew.held (fun hHeld => ?_)
          have SD := Aside0.mk S2_.out.drew
          generalize w1_.drew = WD at hHeld SD ⊢
          have qd4 := (blk_cell SD.out.b5 4).trans rfl
          clear S2_
          refine pure_ (i := 0) (N := some 59) (v := ?_) (a' := ?_) #[true, false, false, false, false, false, false, false, false, false, false, false, false, false, false, false, false] rfl rfl (any_of impl_PipeHear.tab10 (by kernel_rfl)) (fun _ _ _ h => h) (Or.inl ⟨by rfl, ?_⟩) ?_ ?_
          rotate_left
          · intro w'
            go_simp
            with_reducible rfl
          rotate_left
          · simp only [Act.put, List.setIfInBounds_toArray, List.set_cons_zero, List.set_cons_succ, i64_w, i32_w]
            rfl
          refine pure_ (i := 1) (N := some 60) (v := ?_) (a' := ?_) #[true, true, false, false, false, false, false, false, false, false, false, false, false, false, false, false, false] rfl rfl (any_of impl_PipeHear.tab10 (by kernel_rfl)) (fun _ _ _ h => h) (Or.inl ⟨by rfl, ?_⟩) ?_ ?_
          rotate_left
          · intro w'
            go_simp
            with_reducible rfl
          rotate_left
          · simp only [Act.put, List.setIfInBounds_toArray, List.set_cons_zero, List.set_cons_succ, i64_w, i32_w]
            rfl
          refine pure_ (i := 2) (N := some 61) (v := ?_) (a' := ?_) #[true, true, true, false, false, false, false, false, false, false, false, false, false, false, false, false, false] rfl rfl (any_of impl_PipeHear.tab10 (by kernel_rfl)) (fun _ _ _ h => h) (Or.inl ⟨by rfl, ?_⟩) ?_ ?_
          rotate_left
          · intro w'
            go_simp
            with_reducible rfl
          rotate_left
          · simp only [Act.put, List.setIfInBounds_toArray, List.set_cons_zero, List.set_cons_succ, i64_w, i32_w]
            rfl
          refine pure_ (i := 3) (N := some 62) (v := ?_) (a' := ?_) #[true, true, true, true, false, false, false, false, false, false, false, false, false, false, false, false, false] rfl rfl (any_of impl_PipeHear.tab10 (by kernel_rfl)) (fun _ _ _ h => h) (Or.inl ⟨by rfl, ?_⟩) ?_ ?_
          rotate_left
          · intro w'
            go_simp
            with_reducible rfl
          rotate_left
          · simp only [Act.put, List.setIfInBounds_toArray, List.set_cons_zero, List.set_cons_succ, i64_w, i32_w]
            rfl
          refine pure_ (i := 4) (N := some 63) (v := ?_) (a' := ?_) #[true, true, true, true, true, false, false, false, false, false, false, false, false, false, false, false, false] rfl rfl (any_of impl_PipeHear.tab10 (by kernel_rfl)) (fun _ _ _ h => h) (Or.inl ⟨by rfl, ?_⟩) ?_ ?_
          rotate_left
          · intro w'
            go_simp
            with_reducible rfl
          rotate_left
          · simp only [Act.put, List.setIfInBounds_toArray, List.set_cons_zero, List.set_cons_succ, i64_w, i32_w]
            rfl
          refine pure_ (i := 6) (N := some 65) (v := ?_) (a' := ?_) #[true, true, true, true, true, false, true, false, false, false, false, false, false, false, false, false, false] rfl rfl (any_of impl_PipeHear.tab10 (by kernel_rfl)) (fun _ _ _ h => h) (Or.inl ⟨by rfl, ?_⟩) ?_ ?_
          rotate_left
          · intro w'
            go_simp
            with_reducible rfl
          rotate_left
          · simp only [Act.put, List.setIfInBounds_toArray, List.set_cons_zero, List.set_cons_succ, i64_w, i32_w]
            rfl
          refine pure_ (i := 9) (N := some 68) (v := ?_) (a' := ?_) #[true, true, true, true, true, false, true, false, false, true, false, false, false, false, false, false, false] rfl rfl (any_of impl_PipeHear.tab10 (by kernel_rfl)) (fun _ _ _ h => h) (Or.inl ⟨by rfl, ?_⟩) ?_ ?_
          rotate_left
          · intro w'
            go_simp
            with_reducible rfl
          rotate_left
          · simp only [Act.put, List.setIfInBounds_toArray, List.set_cons_zero, List.set_cons_succ, i64_w, i32_w]
            rfl
          refine take_ (i := 10) (N := some 69) (v := ?_) (a' := ?_) #[true, true, true, true, true, false, true, false, false, true, true, false, false, false, false, false, false] rfl rfl (take_of impl_PipeHear.tab10 (by kernel_rfl)) (fun _ _ _ h => h) (Or.inl ⟨by rfl, ?_⟩) hHeld ?_ ?_
          rotate_left
          · intro w' s0
            go_simp
            with_reducible rfl
          rotate_left
          · simp only [Act.put, List.setIfInBounds_toArray, List.set_cons_zero, List.set_cons_succ, i64_w, i32_w]
            rfl
          refine one_ (i := 5) (N := some 64) #[true, true, true, true, true, true, true, false, false, true, true, false, false, false, false, false, false] rfl rfl (one_of impl_PipeHear.tab10 (by kernel_rfl)) (by decide) (fun K hK => ?_)
          refine value_ (v := .slice A_ l_.length c_) (w1 := WD) (by rfl) rfl ?_ ?_
          · go_simp
            first | done | rfl
          refine hK.out _ _ SD.out.held (fun hHeld => ?_)
          clear hK K
          refine norm_ (a' := ?_) ?_ ?_
          rotate_left
          · show Act.put _ (some 64) _ = _
            simp only [Act.put, List.setIfInBounds_toArray, List.set_cons_zero, List.set_cons_succ, i64_w, i32_w]
            rfl
          refine pure_ (i := 7) (N := some 66) (v := ?_) (a' := ?_) #[true, true, true, true, true, true, true, true, false, true, true, false, false, false, false, false, false] rfl rfl (any_of impl_PipeHear.tab10 (by kernel_rfl)) (fun _ _ _ h => h) (Or.inl ⟨by rfl, ?_⟩) ?_ ?_
          rotate_left
          · intro w'
            go_simp
            with_reducible rfl
          rotate_left
          · simp only [Act.put, List.setIfInBounds_toArray, List.set_cons_zero, List.set_cons_succ, i64_w, i32_w]
            rfl
          refine one_ (i := 8) (N := some 67) #[true, true, true, true, true, true, true, true, true, true, true, false, false, false, false, false, false] rfl rfl (one_of impl_PipeHear.tab10 (by kernel_rfl)) (by decide) (fun K hK => ?_)
          refine goes_ Try.func160 (by kernel_rfl) rfl #[.slice A' l3.length c'] (by rfl) rfl rfl (by (try simp only [List.map_toArray, List.map_cons, List.map_nil]); first | done | rfl) ?_
          with_reducible refine (slices_Clone_string_string.calls A' c' l3 m_ _ (HRD.out _ (Kd.R_reads' SD.out.ho).2.2) HLE.out QM.out).mono ?_
          rintro e2_ w2_ ⟨v0_, rfl, ho, hb⟩
          obtain ⟨A6, c6, rfl⟩ := Kd.R_slice ho
          have S3_ := Aside0.mk (SD.out.below hb)
          have HO6 := Aside0.mk (Kd.R_lower ho SD.out.bl.size)
          clear ho hb SD hsl HRD HLE QM qd4
          refine ⟨_, rfl, ?_⟩
          refine hK.out _ _ S3_.out.held (fun hHeld => ?_)
          clear hK K
          refine norm_ (a' := ?_) ?_ ?_
          rotate_left
          · show Act.put _ (some 67) _ = _
            simp only [Act.put, List.setIfInBounds_toArray, List.set_cons_zero, List.set_cons_succ, i64_w, i32_w]
            rfl
          refine pure_ (i := 11) (N := some 70) (v := ?_) (a' := ?_) #[true, true, true, true, true, true, true, true, true, true, true, true, false, false, false, false, false] rfl rfl (any_of impl_PipeHear.tab10 (by kernel_rfl)) (fun _ _ _ h => h) (Or.inl ⟨by rfl, ?_⟩) ?_ ?_
          rotate_left
          · intro w'
            go_simp
            with_reducible rfl
          rotate_left
          · simp only [Act.put, List.setIfInBounds_toArray, List.set_cons_zero, List.set_cons_succ, i64_w, i32_w]
            rfl
          refine pure_ (i := 12) (N := some 71) (v := ?_) (a' := ?_) #[true, true, true, true, true, true, true, true, true, true, true, true, true, false, false, false, false] rfl rfl (any_of impl_PipeHear.tab10 (by kernel_rfl)) (fun _ _ _ h => h) (Or.inl ⟨by rfl, ?_⟩) ?_ ?_
          rotate_left
          · intro w'
            go_simp
            with_reducible rfl
          rotate_left
          · simp only [Act.put, List.setIfInBounds_toArray, List.set_cons_zero, List.set_cons_succ, i64_w, i32_w]
            rfl
          refine one_ (i := 13) (N := none) #[true, true, true, true, true, true, true, true, true, true, true, true, true, true, false, false, false] rfl rfl (one_of impl_PipeHear.tab10 (by kernel_rfl)) (by decide) (fun K hK => ?_)
          have hs4 := (blk_cell S3_.out.b5 4).trans rfl
          have hf4 := blk_frozen S3_.out.b5 4
          refine skip_ (w1 := ?_) (by rfl) rfl ?_ ?_
          rotate_left
          · go_simp
            rfl
          refine hK.out _ _ (S3_.out.row HO6.out).held (fun hHeld => ?_)
          clear hK K
          clear hs4 hf4
          have SR := Aside0.mk (S3_.out.row HO6.out)
          generalize w2_.setCell ⟨g, 4, none⟩ (.slice A6 m_.length c6) = w3_ at hHeld SR ⊢
          clear S3_ HO6
          refine pure_ (i := 14) (N := some 72) (v := ?_) (a' := ?_) #[true, true, true, true, true, true, true, true, true, true, true, true, true, true, true, false, false] rfl rfl (any_of impl_PipeHear.tab10 (by kernel_rfl)) (fun _ _ _ h => h) (Or.inl ⟨by rfl, ?_⟩) ?_ ?_
          rotate_left
          · intro w'
            go_simp
            with_reducible rfl
          rotate_left
          · simp only [Act.put, List.setIfInBounds_toArray, List.set_cons_zero, List.set_cons_succ, i64_w, i32_w]
            rfl
          refine pure_ (i := 15) (N := some 73) (v := ?_) (a' := ?_) #[true, true, true, true, true, true, true, true, true, true, true, true, true, true, true, true, false] rfl rfl (any_of impl_PipeHear.tab10 (by kernel_rfl)) (fun _ _ _ h => h) (Or.inl ⟨by rfl, ?_⟩) ?_ ?_
          rotate_left
          · intro w'
            go_simp
            with_reducible rfl
          rotate_left
          · simp only [Act.put, List.setIfInBounds_toArray, List.set_cons_zero, List.set_cons_succ, i64_w, i32_w]
            rfl
          refine one_ (i := 16) (N := none) #[true, true, true, true, true, true, true, true, true, true, true, true, true, true, true, true, true] rfl rfl (one_of impl_PipeHear.tab10 (by kernel_rfl)) (by decide) (fun K hK => ?_)
          have hs2 := (blk_cell SR.out.b5 2).trans rfl
          have hf2 := blk_frozen SR.out.b5 2
          refine skip_ (w1 := ?_) (by rfl) rfl ?_ ?_
          rotate_left
          · go_simp
            rfl
          refine hK.out _ _ (SR.out.sb a1_3).held (fun hHeld => ?_)
          clear hK K
          refine done_ (done_of impl_PipeHear.tab10 (by kernel_rfl)) ?_
          go_upto_region 11 with (fail)
          refine impl_PipeHear.gen (fun W => impl_PipeHear.PS w0 W0 W g a1_0 a1_1 a1_2 a1_3 a1_4 e a1_0 a1_3 n_ A6 c6 m_) (SR.out.sb a1_3) ?_
          clear SR hs2 hf2
          intro Y0 h_
          have S4_ := Aside0.mk h_
          clear h_
          by_cases cn : a1_2 = wrap64 (n_ + 1)
          · have h := H.out
            rw [if_pos cn] at h
            have H := Aside0.mk h
            clear h
            have d0cn : (a1_2 != wrap64 (n_ + 1)) = false := bne_eq_false_iff_eq.mpr cn
            have d1cn : (a1_2 == wrap64 (n_ + 1)) = true := beq_iff_eq.mpr cn
            have d2cn : (a1_2 != IntKind.i64.wrap (n_ + 1)) = false := by rw [i64_w]; exact d0cn
            clear cn
            have q0 := (blk_cell S4_.out.b5 0).trans rfl
            have q1 := (blk_cell S4_.out.b5 1).trans rfl
            have q2 := (blk_cell S4_.out.b5 2).trans rfl
            have q3 := (blk_cell S4_.out.b5 3).trans rfl
            have q4 := (blk_cell S4_.out.b5 4).trans rfl
            have fz0 := blk_frozen S4_.out.b5 0
            have fz1 := blk_frozen S4_.out.b5 1
            have fz2 := blk_frozen S4_.out.b5 2
            have fz3 := blk_frozen S4_.out.b5 3
            have fz4 := blk_frozen S4_.out.b5 4
            have x0 := (blk_cell S4_.out.bx 0).trans rfl
            have x1 := (blk_cell S4_.out.bx 1).trans rfl
            have x2 := (blk_cell S4_.out.bx 2).trans rfl
            have x3 := (blk_cell S4_.out.bx 3).trans rfl
            have x4 := (blk_cell S4_.out.bx 4).trans rfl
            go_upto_region 11 with (fail)
            go_quiet (fail)
            go_upto_region 13 with (fail)
            refine impl_PipeHear.gen (fun W => impl_PipeHear.PS w0 W0 W g a1_0 a1_1 a1_2 a1_3 a1_4 e a1_0 a1_3 n_ A6 c6 m_) (S4_.out.drewN _) ?_
            clear q0 fz0 x0 q1 fz1 x1 q2 fz2 x2 q3 fz3 x3 q4 fz4 x4
            clear S4_
            intro X1 h_
            have SX := Aside0.mk h_
            clear h_
            have h := H.out
            simp only [Option.some.injEq, Prod.mk.injEq] at h
            obtain ⟨rfl, rfl, rfl, rfl, rfl, rfl, rfl⟩ := h
            clear H
            have q0 := (blk_cell SX.out.b5 0).trans rfl
            have q1 := (blk_cell SX.out.b5 1).trans rfl
            have q2 := (blk_cell SX.out.b5 2).trans rfl
            have q3 := (blk_cell SX.out.b5 3).trans rfl
            have q4 := (blk_cell SX.out.b5 4).trans rfl
            have fz0 := blk_frozen SX.out.b5 0
            have fz1 := blk_frozen SX.out.b5 1
            have fz2 := blk_frozen SX.out.b5 2
            have fz3 := blk_frozen SX.out.b5 3
            have fz4 := blk_frozen SX.out.b5 4
            have x0 := (blk_cell SX.out.bx 0).trans rfl
            have x1 := (blk_cell SX.out.bx 1).trans rfl
            have x2 := (blk_cell SX.out.bx 2).trans rfl
            have x3 := (blk_cell SX.out.bx 3).trans rfl
            have x4 := (blk_cell SX.out.bx 4).trans rfl
            go_upto_region 14 with (fail)
            refine impl_PipeHear.gen (fun W => impl_PipeHear.PS w0 W0 W g a1_0 a1_1 a1_2 a1_3 a1_4 e a1_0 a1_3 a1_2 A6 c6 m_) (SX.out.sn a1_2) ?_
            clear q0 fz0 x0 q1 fz1 x1 q2 fz2 x2 q3 fz3 x3 q4 fz4 x4
            clear SX
            intro X2 h_
            have SY := Aside0.mk h_
            clear h_
            have x4 := (blk_cell SY.out.bx 4).trans rfl
            go_wp2_with fail
            go_ret2
            exact SY.out.one _
          · have h := H.out
            rw [if_neg cn] at h
            have H := Aside0.mk h
            clear h
            have d0cn : (a1_2 != wrap64 (n_ + 1)) = true := bne_iff_ne.mpr cn
            have d1cn : (a1_2 == wrap64 (n_ + 1)) = false := beq_eq_false_iff_ne.mpr cn
            have d2cn : (a1_2 != IntKind.i64.wrap (n_ + 1)) = true := by rw [i64_w]; exact d0cn
            clear cn
            have q0 := (blk_cell S4_.out.b5 0).trans rfl
            have q1 := (blk_cell S4_.out.b5 1).trans rfl
            have q2 := (blk_cell S4_.out.b5 2).trans rfl
            have q3 := (blk_cell S4_.out.b5 3).trans rfl
            have q4 := (blk_cell S4_.out.b5 4).trans rfl
            have fz0 := blk_frozen S4_.out.b5 0
            have fz1 := blk_frozen S4_.out.b5 1
            have fz2 := blk_frozen S4_.out.b5 2
            have fz3 := blk_frozen S4_.out.b5 3
            have fz4 := blk_frozen S4_.out.b5 4
            have x0 := (blk_cell S4_.out.bx 0).trans rfl
            have x1 := (blk_cell S4_.out.bx 1).trans rfl
            have x2 := (blk_cell S4_.out.bx 2).trans rfl
            have x3 := (blk_cell S4_.out.bx 3).trans rfl
            have x4 := (blk_cell S4_.out.bx 4).trans rfl
            go_upto_region 11 with (fail)
            go_quiet (fail)
            go_upto_region 12 with (fail)
            refine impl_PipeHear.gen (fun W => impl_PipeHear.PS w0 W0 W g a1_0 a1_1 a1_2 a1_3 a1_4 e a1_0 a1_3 n_ A6 c6 m_) (S4_.out.drewN _) ?_
            clear q0 fz0 x0 q1 fz1 x1 q2 fz2 x2 q3 fz3 x3 q4 fz4 x4
            clear S4_
            intro X1 h_
            have SX := Aside0.mk h_
            clear h_
            have h := H.out
            simp only [Option.some.injEq, Prod.mk.injEq] at h
            obtain ⟨rfl, rfl, rfl, rfl, rfl, rfl, rfl⟩ := h
            clear H
            (try go_wp2_with fail)
            go_ret2
            exact SX.out.none _
        · rw [if_neg k1] at qa
          simp only [Option.some.injEq, Prod.mk.injEq] at qa
          obtain ⟨rfl, rfl⟩ := qa
          have hin : impl_in.f (wrap64 (a1_3 - b_)) 1 (l_.length : Int) = some false := impl_PipeHear.inF k1
          refine (impl_in.calls _ _ _ _ _ hin).mono ?_
          rintro e1_ w1_ ⟨rfl, hd⟩
          obtain ⟨m1, hm1⟩ := hd.out
          have S2_ := Aside0.mk (show impl_PipeHear.PS w0 W0 w1_ g a1_0 a1_1 a1_2 a1_3 a1_4 e a1_0 b_ n_ A_ c_ l_ from hm1 ▸ S1_.out.drewN m1)
          clear hd hm1 hin
          clear q0 fz0 x0 q1 fz1 x1 q2 fz2 x2 q3 fz3 x3 q4 fz4 x4
          clear S1_
          clear k1 hcl
          (try clear hcl)
          go_upto_region 11 with (fail)
          by_cases cn : a1_2 = wrap64 (n_ + 1)
          · have h := H.out
            rw [if_pos cn] at h
            have H := Aside0.mk h
            clear h
            have d0cn : (a1_2 != wrap64 (n_ + 1)) = false := bne_eq_false_iff_eq.mpr cn
            have d1cn : (a1_2 == wrap64 (n_ + 1)) = true := beq_iff_eq.mpr cn
            have d2cn : (a1_2 != IntKind.i64.wrap (n_ + 1)) = false := by rw [i64_w]; exact d0cn
            clear cn
            have q0 := (blk_cell S2_.out.b5 0).trans rfl
            have q1 := (blk_cell S2_.out.b5 1).trans rfl
            have q2 := (blk_cell S2_.out.b5 2).trans rfl
            have q3 := (blk_cell S2_.out.b5 3).trans rfl
            have q4 := (blk_cell S2_.out.b5 4).trans rfl
            have fz0 := blk_frozen S2_.out.b5 0
            have fz1 := blk_frozen S2_.out.b5 1
            have fz2 := blk_frozen S2_.out.b5 2
            have fz3 := blk_frozen S2_.out.b5 3
            have fz4 := blk_frozen S2_.out.b5 4
            have x0 := (blk_cell S2_.out.bx 0).trans rfl
            have x1 := (blk_cell S2_.out.bx 1).trans rfl
            have x2 := (blk_cell S2_.out.bx 2).trans rfl
            have x3 := (blk_cell S2_.out.bx 3).trans rfl
            have x4 := (blk_cell S2_.out.bx 4).trans rfl
            go_upto_region 11 with (fail)
            go_quiet (fail)
            go_upto_region 13 with (fail)
            refine impl_PipeHear.gen (fun W => impl_PipeHear.PS w0 W0 W g a1_0 a1_1 a1_2 a1_3 a1_4 e a1_0 b_ n_ A_ c_ l_) (S2_.out.drewN _) ?_
            clear q0 fz0 x0 q1 fz1 x1 q2 fz2 x2 q3 fz3 x3 q4 fz4 x4
            clear S2_
            intro X1 h_
            have SX := Aside0.mk h_
            clear h_
            have h := H.out
            simp only [Option.some.injEq, Prod.mk.injEq] at h
            obtain ⟨rfl, rfl, rfl, rfl, rfl, rfl, rfl⟩ := h
            clear H
            have q0 := (blk_cell SX.out.b5 0).trans rfl
            have q1 := (blk_cell SX.out.b5 1).trans rfl
            have q2 := (blk_cell SX.out.b5 2).trans rfl
            have q3 := (blk_cell SX.out.b5 3).trans rfl
            have q4 := (blk_cell SX.out.b5 4).trans rfl
            have fz0 := blk_frozen SX.out.b5 0
            have fz1 := blk_frozen SX.out.b5 1
            have fz2 := blk_frozen SX.out.b5 2
            have fz3 := blk_frozen SX.out.b5 3
            have fz4 := blk_frozen SX.out.b5 4
            have x0 := (blk_cell SX.out.bx 0).trans rfl
            have x1 := (blk_cell SX.out.bx 1).trans rfl
            have x2 := (blk_cell SX.out.bx 2).trans rfl
            have x3 := (blk_cell SX.out.bx 3).trans rfl
            have x4 := (blk_cell SX.out.bx 4).trans rfl
            go_upto_region 14 with (fail)
            refine impl_PipeHear.gen (fun W => impl_PipeHear.PS w0 W0 W g a1_0 a1_1 a1_2 a1_3 a1_4 e a1_0 b_ a1_2 A_ c_ l_) (SX.out.sn a1_2) ?_
            clear q0 fz0 x0 q1 fz1 x1 q2 fz2 x2 q3 fz3 x3 q4 fz4 x4
            clear SX
            intro X2 h_
            have SY := Aside0.mk h_
            clear h_
            have x4 := (blk_cell SY.out.bx 4).trans rfl
            go_wp2_with fail
            go_ret2
            exact SY.out.one _
          · have h := H.out
            rw [if_neg cn] at h
            have H := Aside0.mk h
            clear h
            have d0cn : (a1_2 != wrap64 (n_ + 1)) = true := bne_iff_ne.mpr cn
            have d1cn : (a1_2 == wrap64 (n_ + 1)) = false := beq_eq_false_iff_ne.mpr cn
            have d2cn : (a1_2 != IntKind.i64.wrap (n_ + 1)) = true := by rw [i64_w]; exact d0cn
            clear cn
            have q0 := (blk_cell S2_.out.b5 0).trans rfl
            have q1 := (blk_cell S2_.out.b5 1).trans rfl
            have q2 := (blk_cell S2_.out.b5 2).trans rfl
            have q3 := (blk_cell S2_.out.b5 3).trans rfl
            have q4 := (blk_cell S2_.out.b5 4).trans rfl
            have fz0 := blk_frozen S2_.out.b5 0
            have fz1 := blk_frozen S2_.out.b5 1
            have fz2 := blk_frozen S2_.out.b5 2
            have fz3 := blk_frozen S2_.out.b5 3
            have fz4 := blk_frozen S2_.out.b5 4
            have x0 := (blk_cell S2_.out.bx 0).trans rfl
            have x1 := (blk_cell S2_.out.bx 1).trans rfl
            have x2 := (blk_cell S2_.out.bx 2).trans rfl
            have x3 := (blk_cell S2_.out.bx 3).trans rfl
            have x4 := (blk_cell S2_.out.bx 4).trans rfl
            go_upto_region 11 with (fail)
            go_quiet (fail)
            go_upto_region 12 with (fail)
            refine impl_PipeHear.gen (fun W => impl_PipeHear.PS w0 W0 W g a1_0 a1_1 a1_2 a1_3 a1_4 e a1_0 b_ n_ A_ c_ l_) (S2_.out.drewN _) ?_
            clear q0 fz0 x0 q1 fz1 x1 q2 fz2 x2 q3 fz3 x3 q4 fz4 x4
            clear S2_
            intro X1 h_
            have SX := Aside0.mk h_
            clear h_
            have h := H.out
            simp only [Option.some.injEq, Prod.mk.injEq] at h
            obtain ⟨rfl, rfl, rfl, rfl, rfl, rfl, rfl⟩ := h
            clear H
            (try go_wp2_with fail)
            go_ret2
            exact SX.out.none _
      · have h := H.out
        rw [if_neg ce] at h
        have H := Aside0.mk h
        clear h
        have d0ce : (a1_1 != e) = true := bne_iff_ne.mpr ce
        have d1ce : (a1_1 == e) = false := beq_eq_false_iff_ne.mpr ce
        clear ce
        have q0 := (blk_cell S7.out.b5 0).trans rfl
        have q1 := (blk_cell S7.out.b5 1).trans rfl
        have q2 := (blk_cell S7.out.b5 2).trans rfl
        have q3 := (blk_cell S7.out.b5 3).trans rfl
        have q4 := (blk_cell S7.out.b5 4).trans rfl
        have fz0 := blk_frozen S7.out.b5 0
        have fz1 := blk_frozen S7.out.b5 1
        have fz2 := blk_frozen S7.out.b5 2
        have fz3 := blk_frozen S7.out.b5 3
        have fz4 := blk_frozen S7.out.b5 4
        have x0 := (blk_cell S7.out.bx 0).trans rfl
        have x1 := (blk_cell S7.out.bx 1).trans rfl
        have x2 := (blk_cell S7.out.bx 2).trans rfl
        have x3 := (blk_cell S7.out.bx 3).trans rfl
        have x4 := (blk_cell S7.out.bx 4).trans rfl
        go_upto_region 6 with (fail)
        go_quiet (fail)
        go_upto_region 7 with (fail)
        refine impl_PipeHear.gen (fun W => impl_PipeHear.PS w0 W0 W g a1_0 a1_1 a1_2 a1_3 a1_4 e a1_0 b_ n_ A_ c_ l_) (S7.out.drewN _) ?_
        clear q0 fz0 x0 q1 fz1 x1 q2 fz2 x2 q3 fz3 x3 q4 fz4 x4
        clear S7
        intro X0 h_
        have S0_ := Aside0.mk h_
        clear h_
        have h := H.out
        simp only [Option.some.injEq, Prod.mk.injEq] at h
        obtain ⟨rfl, rfl, rfl, rfl, rfl, rfl, rfl⟩ := h
        clear H
        (try go_wp2_with fail)
        go_ret2
        exact S0_.out.none _
    · have h := H.out
      rw [if_neg c2] at h
      have H := Aside0.mk h
      clear h
      have d0c2 : decide (p_ < a1_0) = false := decide_eq_false c2
      clear c2
      go_upto_region 3 with (fail)
      go_quiet (fail)
      go_upto_region 6 with (fail)
      refine impl_PipeHear.gen (fun W => impl_PipeHear.PS w0 W0 W g a1_0 a1_1 a1_2 a1_3 a1_4 e p_ b_ n_ A_ c_ l_) (SA.out.drewN _) ?_
      clear q0 fz0 x0 q1 fz1 x1 q2 fz2 x2 q3 fz3 x3 q4 fz4 x4
      clear SA
      intro WB h_
      have SB := Aside0.mk h_
      clear h_
      have h := H.out
      unfold impl_PipeHear.go at h
      have H := Aside0.mk h
      clear h
      by_cases ce : a1_1 = e
      · have h := H.out
        rw [if_pos ce] at h
        have H := Aside0.mk h
        clear h
        have d0ce : (a1_1 != e) = false := bne_eq_false_iff_eq.mpr ce
        have d1ce : (a1_1 == e) = true := beq_iff_eq.mpr ce
        clear ce
        have q0 := (blk_cell SB.out.b5 0).trans rfl
        have q1 := (blk_cell SB.out.b5 1).trans rfl
        have q2 := (blk_cell SB.out.b5 2).trans rfl
        have q3 := (blk_cell SB.out.b5 3).trans rfl
        have q4 := (blk_cell SB.out.b5 4).trans rfl
        have fz0 := blk_frozen SB.out.b5 0
        have fz1 := blk_frozen SB.out.b5 1
        have fz2 := blk_frozen SB.out.b5 2
        have fz3 := blk_frozen SB.out.b5 3
        have fz4 := blk_frozen SB.out.b5 4
        have x0 := (blk_cell SB.out.bx 0).trans rfl
        have x1 := (blk_cell SB.out.bx 1).trans rfl
        have x2 := (blk_cell SB.out.bx 2).trans rfl
        have x3 := (blk_cell SB.out.bx 3).trans rfl
        have x4 := (blk_cell SB.out.bx 4).trans rfl
        go_upto_region 6 with (fail)
        go_quiet (fail)
        go_upto_region 8 with (fail)
        refine impl_PipeHear.gen (fun W => impl_PipeHear.PS w0 W0 W g a1_0 a1_1 a1_2 a1_3 a1_4 e p_ b_ n_ A_ c_ l_) (SB.out.drewN _) ?_
        clear q0 fz0 x0 q1 fz1 x1 q2 fz2 x2 q3 fz3 x3 q4 fz4 x4
        clear SB
        intro X0 h_
        have S0_ := Aside0.mk h_
        clear h_
        have q0 := (blk_cell S0_.out.b5 0).trans rfl
        have q1 := (blk_cell S0_.out.b5 1).trans rfl
        have q2 := (blk_cell S0_.out.b5 2).trans rfl
        have q3 := (blk_cell S0_.out.b5 3).trans rfl
        have q4 := (blk_cell S0_.out.b5 4).trans rfl
        have fz0 := blk_frozen S0_.out.b5 0
        have fz1 := blk_frozen S0_.out.b5 1
        have fz2 := blk_frozen S0_.out.b5 2
        have fz3 := blk_frozen S0_.out.b5 3
        have fz4 := blk_frozen S0_.out.b5 4
        have x0 := (blk_cell S0_.out.bx 0).trans rfl
        have x1 := (blk_cell S0_.out.bx 1).trans rfl
        have x2 := (blk_cell S0_.out.bx 2).trans rfl
        have x3 := (blk_cell S0_.out.bx 3).trans rfl
        have x4 := (blk_cell S0_.out.bx 4).trans rfl
        go_upto_region 8 with (fail)
        go_quiet (fail)
        go_upto_region 9 with (fail)
        refine impl_PipeHear.gen (fun W => impl_PipeHear.PS w0 W0 W g a1_0 a1_1 a1_2 a1_3 a1_4 e p_ b_ n_ A_ c_ l_) (S0_.out.drewN _) ?_
        clear q0 fz0 x0 q1 fz1 x1 q2 fz2 x2 q3 fz3 x3 q4 fz4 x4
        clear S0_
        intro X1 h_
        have S1_ := Aside0.mk h_
        clear h_
        have H1 := H.out
        replace H1 := Option.bind_eq_some_iff.mp H1
        obtain ⟨⟨b2_, l2_⟩, qa, h⟩ := H1
        have H := Aside0.mk h
        clear h
        unfold impl_PipeHear.ack at qa
        have hcl : l_.length ≤ c_ := (Kd.R_reads' S1_.out.ho).2.1
        have q0 := (blk_cell S1_.out.b5 0).trans rfl
        have q1 := (blk_cell S1_.out.b5 1).trans rfl
        have q2 := (blk_cell S1_.out.b5 2).trans rfl
        have q3 := (blk_cell S1_.out.b5 3).trans rfl
        have q4 := (blk_cell S1_.out.b5 4).trans rfl
        have fz0 := blk_frozen S1_.out.b5 0
        have fz1 := blk_frozen S1_.out.b5 1
        have fz2 := blk_frozen S1_.out.b5 2
        have fz3 := blk_frozen S1_.out.b5 3
        have fz4 := blk_frozen S1_.out.b5 4
        have x0 := (blk_cell S1_.out.bx 0).trans rfl
        have x1 := (blk_cell S1_.out.bx 1).trans rfl
        have x2 := (blk_cell S1_.out.bx 2).trans rfl
        have x3 := (blk_cell S1_.out.bx 3).trans rfl
        have x4 := (blk_cell S1_.out.bx 4).trans rfl
        go_wp2_with fail
        go_at_call 94
        by_cases k1 : 1 ≤ wrap64 (a1_3 - b_) ∧ wrap64 (a1_3 - b_) ≤ (l_.length : Int)
        · rw [if_pos k1] at qa
          replace qa := Option.bind_eq_some_iff.mp qa
          obtain ⟨m_, qm, qa⟩ := qa
          simp only [Option.some.injEq, Prod.mk.injEq] at qa
          obtain ⟨rfl, rfl⟩ := qa
          have hin : impl_in.f (wrap64 (a1_3 - b_)) 1 (l_.length : Int) = some true := impl_PipeHear.inT k1
          refine (impl_in.calls _ _ _ _ _ hin).mono ?_
          rintro e1_ w1_ ⟨rfl, hd⟩
          obtain ⟨m1, hm1⟩ := hd.out
          have S2_ := Aside0.mk (show impl_PipeHear.PS w0 W0 w1_ g a1_0 a1_1 a1_2 a1_3 a1_4 e p_ b_ n_ A_ c_ l_ from hm1 ▸ S1_.out.drewN m1)
          clear hd hm1 hin
          clear q0 fz0 x0 q1 fz1 x1 q2 fz2 x2 q3 fz3 x3 q4 fz4 x4
          clear S1_
          obtain ⟨A', hsl, hrd, hle⟩ := impl_PipeHear.cut A_ c_ l_ (wrap64 (a1_3 - b_)) (by omega) k1.2 hcl
          have HRD := Aside0.mk hrd
          have HLE := Aside0.mk hle
          clear hrd hle k1
          obtain ⟨l3, hl3⟩ : ∃ l3, l3 = l_.drop (wrap64 (a1_3 - b_)).toNat := ⟨_, rfl⟩
          rw [← hl3] at qm hsl HRD HLE
          clear hl3
          obtain ⟨c', hc'⟩ : ∃ c', c' = c_ - (wrap64 (a1_3 - b_)).toNat := ⟨_, rfl⟩
          rw [← hc'] at hsl HLE
          clear hc'
          have QM := Aside0.mk qm
          clear qm
          go_upto_region 10 with (fail)
          have hq4_ := (blk_cell S2_.out.b5 4).trans rfl
          clear hq4_
          refine start_ (n := 17) (S := (fun w' => w'.cell? ⟨W0.heap.size, 3, none⟩ = some (.int .i64 a1_3))) (ds := []) #[false, false, false, false, false, false, false, false, false, false, false, false, false, false, false, false, false] (by kernel_rfl) rfl rfl S2_.out.drew.held (fun hHeld => ?_)
          have SD := Aside0.mk S2_.out.drew
          generalize w1_.drew = WD at hHeld SD ⊢
          have qd4 := (blk_cell SD.out.b5 4).trans rfl
          clear S2_
          refine pure_ (i := 0) (N := some 59) (v := ?_) (a' := ?_) #[true, false, false, false, false, false, false, false, false, false, false, false, false, false, false, false, false] rfl rfl (any_of impl_PipeHear.tab10 (by kernel_rfl)) (fun _ _ _ h => h) (Or.inl ⟨by rfl, ?_⟩) ?_ ?_
          rotate_left
          · intro w'
            go_simp
            with_reducible rfl
          rotate_left
          · simp only [Act.put, List.setIfInBounds_toArray, List.set_cons_zero, List.set_cons_succ, i64_w, i32_w]
            rfl
          refine pure_ (i := 1) (N := some 60) (v := ?_) (a' := ?_) #[true, true, false, false, false, false, false, false, false, false, false, false, false, false, false, false, false] rfl rfl (any_of impl_PipeHear.tab10 (by kernel_rfl)) (fun _ _ _ h => h) (Or.inl ⟨by rfl, ?_⟩) ?_ ?_
          rotate_left
          · intro w'
            go_simp
            with_reducible rfl
          rotate_left
          · simp only [Act.put, List.setIfInBounds_toArray, List.set_cons_zero, List.set_cons_succ, i64_w, i32_w]
            rfl
          refine pure_ (i := 2) (N := some 61) (v := ?_) (a' := ?_) #[true, true, true, false, false, false, false, false, false, false, false, false, false, false, false, false, false] rfl rfl (any_of impl_PipeHear.tab10 (by kernel_rfl)) (fun _ _ _ h => h) (Or.inl ⟨by rfl, ?_⟩) ?_ ?_
          rotate_left
          · intro w'
            go_simp
            with_reducible rfl
          rotate_left
          · simp only [Act.put, List.setIfInBounds_toArray, List.set_cons_zero, List.set_cons_succ, i64_w, i32_w]
            rfl
          refine pure_ (i := 3) (N := some 62) (v := ?_) (a' := ?_) #[true, true, true, true, false, false, false, false, false, false, false, false, false, false, false, false, false] rfl rfl (any_of impl_PipeHear.tab10 (by kernel_rfl)) (fun _ _ _ h => h) (Or.inl ⟨by rfl, ?_⟩) ?_ ?_
          rotate_left
          · intro w'
            go_simp
            with_reducible rfl
          rotate_left
          · simp only [Act.put, List.setIfInBounds_toArray, List.set_cons_zero, List.set_cons_succ, i64_w, i32_w]
            rfl
          refine pure_ (i := 4) (N := some 63) (v := ?_) (a' := ?_) #[true, true, true, true, true, false, false, false, false, false, false, false, false, false, false, false, false] rfl rfl (any_of impl_PipeHear.tab10 (by kernel_rfl)) (fun _ _ _ h => h) (Or.inl ⟨by rfl, ?_⟩) ?_ ?_
          rotate_left
          · intro w'
            go_simp
            with_reducible rfl
          rotate_left
          · simp only [Act.put, List.setIfInBounds_toArray, List.set_cons_zero, List.set_cons_succ, i64_w, i32_w]
            rfl
          refine pure_ (i := 6) (N := some 65) (v := ?_) (a' := ?_) #[true, true, true, true, true, false, true, false, false, false, false, false, false, false, false, false, false] rfl rfl (any_of impl_PipeHear.tab10 (by kernel_rfl)) (fun _ _ _ h => h) (Or.inl ⟨by rfl, ?_⟩) ?_ ?_
          rotate_left
          · intro w'
            go_simp
            with_reducible rfl
          rotate_left
          · simp only [Act.put, List.setIfInBounds_toArray, List.set_cons_zero, List.set_cons_succ, i64_w, i32_w]
            rfl
          refine pure_ (i := 9) (N := some 68) (v := ?_) (a' := ?_) #[true, true, true, true, true, false, true, false, false, true, false, false, false, false, false, false, false] rfl rfl (any_of impl_PipeHear.tab10 (by kernel_rfl)) (fun _ _ _ h => h) (Or.inl ⟨by rfl, ?_⟩) ?_ ?_
          rotate_left
          · intro w'
            go_simp
            with_reducible rfl
          rotate_left
          · simp only [Act.put, List.setIfInBounds_toArray, List.set_cons_zero, List.set_cons_succ, i64_w, i32_w]
            rfl
          refine take_ (i := 10) (N := some 69) (v := ?_) (a' := ?_) #[true, true, true, true, true, false, true, false, false, true, true, false, false, false, false, false, false] rfl rfl (take_of impl_PipeHear.tab10 (by kernel_rfl)) (fun _ _ _ h => h) (Or.inl ⟨by rfl, ?_⟩) hHeld ?_ ?_
          rotate_left
          · intro w' s0
            go_simp
            with_reducible rfl
          rotate_left
          · simp only [Act.put, List.setIfInBounds_toArray, List.set_cons_zero, List.set_cons_succ, i64_w, i32_w]
            rfl
          refine one_ (i := 5) (N := some 64) #[true, true, true, true, true, true, true, false, false, true, true, false, false, false, false, false, false] rfl rfl (one_of impl_PipeHear.tab10 (by kernel_rfl)) (by decide) (fun K hK => ?_)
          refine value_ (v := .slice A_ l_.length c_) (w1 := WD) (by rfl) rfl ?_ ?_
          · go_simp
            first | done | rfl
          refine hK.out _ _ SD.out.held (fun hHeld => ?_)
          clear hK K
          refine norm_ (a' := ?_) ?_ ?_
          rotate_left
          · show Act.put _ (some 64) _ = _
            simp only [Act.put, List.setIfInBounds_toArray, List.set_cons_zero, List.set_cons_succ, i64_w, i32_w]
            rfl
          refine pure_ (i := 7) (N := some 66) (v := ?_) (a' := ?_) #[true, true, true, true, true, true, true, true, false, true, true, false, false, false, false, false, false] rfl rfl (any_of impl_PipeHear.tab10 (by kernel_rfl)) (fun _ _ _ h => h) (Or.inl ⟨by rfl, ?_⟩) ?_ ?_
          rotate_left
          · intro w'
            go_simp
            with_reducible rfl
          rotate_left
          · simp only [Act.put, List.setIfInBounds_toArray, List.set_cons_zero, List.set_cons_succ, i64_w, i32_w]
            rfl
          refine one_ (i := 8) (N := some 67) #[true, true, true, true, true, true, true, true, true, true, true, false, false, false, false, false, false] rfl rfl (one_of impl_PipeHear.tab10 (by kernel_rfl)) (by decide) (fun K hK => ?_)
          refine goes_ Try.func160 (by kernel_rfl) rfl #[.slice A' l3.length c'] (by rfl) rfl rfl (by (try simp only [List.map_toArray, List.map_cons, List.map_nil]); first | done | rfl) ?_
          with_reducible refine (slices_Clone_string_string.calls A' c' l3 m_ _ (HRD.out _ (Kd.R_reads' SD.out.ho).2.2) HLE.out QM.out).mono ?_
          rintro e2_ w2_ ⟨v0_, rfl, ho, hb⟩
          obtain ⟨A6, c6, rfl⟩ := Kd.R_slice ho
          have S3_ := Aside0.mk (SD.out.below hb)
          have HO6 := Aside0.mk (Kd.R_lower ho SD.out.bl.size)
          clear ho hb SD hsl HRD HLE QM qd4
          refine ⟨_, rfl, ?_⟩
          refine hK.out _ _ S3_.out.held (fun hHeld => ?_)
          clear hK K
          refine norm_ (a' := ?_) ?_ ?_
          rotate_left
          · show Act.put _ (some 67) _ = _
            simp only [Act.put, List.setIfInBounds_toArray, List.set_cons_zero, List.set_cons_succ, i64_w, i32_w]
            rfl
          refine pure_ (i := 11) (N := some 70) (v := ?_) (a' := ?_) #[true, true, true, true, true, true, true, true, true, true, true, true, false, false, false, false, false] rfl rfl (any_of impl_PipeHear.tab10 (by kernel_rfl)) (fun _ _ _ h => h) (Or.inl ⟨by rfl, ?_⟩) ?_ ?_
          rotate_left
          · intro w'
            go_simp
            with_reducible rfl
          rotate_left
          · simp only [Act.put, List.setIfInBounds_toArray, List.set_cons_zero, List.set_cons_succ, i64_w, i32_w]
            rfl
          refine pure_ (i := 12) (N := some 71) (v := ?_) (a' := ?_) #[true, true, true, true, true, true, true, true, true, true, true, true, true, false, false, false, false] rfl rfl (any_of impl_PipeHear.tab10 (by kernel_rfl)) (fun _ _ _ h => h) (Or.inl ⟨by rfl, ?_⟩) ?_ ?_
          rotate_left
          · intro w'
            go_simp
            with_reducible rfl
          rotate_left
          · simp only [Act.put, List.setIfInBounds_toArray, List.set_cons_zero, List.set_cons_succ, i64_w, i32_w]
            rfl
          refine one_ (i := 13) (N := none) #[true, true, true, true, true, true, true, true, true, true, true, true, true, true, false, false, false] rfl rfl (one_of impl_PipeHear.tab10 (by kernel_rfl)) (by decide) (fun K hK => ?_)
          have hs4 := (blk_cell S3_.out.b5 4).trans rfl
          have hf4 := blk_frozen S3_.out.b5 4
          refine skip_ (w1 := ?_) (by rfl) rfl ?_ ?_
          rotate_left
          · go_simp
            rfl
          refine hK.out _ _ (S3_.out.row HO6.out).held (fun hHeld => ?_)
          clear hK K
          clear hs4 hf4
          have SR := Aside0.mk (S3_.out.row HO6.out)
          generalize w2_.setCell ⟨g, 4, none⟩ (.slice A6 m_.length c6) = w3_ at hHeld SR ⊢
          clear S3_ HO6
          refine pure_ (i := 14) (N := some 72) (v := ?_) (a' := ?_) #[true, true, true, true, true, true, true, true, true, true, true, true, true, true, true, false, false] rfl rfl (any_of impl_PipeHear.tab10 (by kernel_rfl)) (fun _ _ _ h => h) (Or.inl ⟨by rfl, ?_⟩) ?_ ?_
          rotate_left
          · intro w'
            go_simp
            with_reducible rfl
          rotate_left
          · simp only [Act.put, List.setIfInBounds_toArray, List.set_cons_zero, List.set_cons_succ, i64_w, i32_w]
            rfl
          refine pure_ (i := 15) (N := some 73) (v := ?_) (a' := ?_) #[true, true, true, true, true, true, true, true, true, true, true, true, true, true, true, true, false] rfl rfl (any_of impl_PipeHear.tab10 (by kernel_rfl)) (fun _ _ _ h => h) (Or.inl ⟨by rfl, ?_⟩) ?_ ?_
          rotate_left
          · intro w'
            go_simp
            with_reducible rfl
          rotate_left
          · simp only [Act.put, List.setIfInBounds_toArray, List.set_cons_zero, List.set_cons_succ, i64_w, i32_w]
            rfl
          refine one_ (i := 16) (N := none) #[true, true, true, true, true, true, true, true, true, true, true, true, true, true, true, true, true] rfl rfl (one_of impl_PipeHear.tab10 (by kernel_rfl)) (by decide) (fun K hK => ?_)
          have hs2 := (blk_cell SR.out.b5 2).trans rfl
          have hf2 := blk_frozen SR.out.b5 2
          refine skip_ (w1 := ?_) (by rfl) rfl ?_ ?_
          rotate_left
          · go_simp
            rfl
          refine hK.out _ _ (SR.out.sb a1_3).held (fun hHeld => ?_)
          clear hK K
          refine done_ (done_of impl_PipeHear.tab10 (by kernel_rfl)) ?_
          go_upto_region 11 with (fail)
          refine impl_PipeHear.gen (fun W => impl_PipeHear.PS w0 W0 W g a1_0 a1_1 a1_2 a1_3 a1_4 e p_ a1_3 n_ A6 c6 m_) (SR.out.sb a1_3) ?_
          clear SR hs2 hf2
          intro Y0 h_
          have S4_ := Aside0.mk h_
          clear h_
          by_cases cn : a1_2 = wrap64 (n_ + 1)
          · have h := H.out
            rw [if_pos cn] at h
            have H := Aside0.mk h
            clear h
            have d0cn : (a1_2 != wrap64 (n_ + 1)) = false := bne_eq_false_iff_eq.mpr cn
            have d1cn : (a1_2 == wrap64 (n_ + 1)) = true := beq_iff_eq.mpr cn
            have d2cn : (a1_2 != IntKind.i64.wrap (n_ + 1)) = false := by rw [i64_w]; exact d0cn
            clear cn
            have q0 := (blk_cell S4_.out.b5 0).trans rfl
            have q1 := (blk_cell S4_.out.b5 1).trans rfl
            have q2 := (blk_cell S4_.out.b5 2).trans rfl
            have q3 := (blk_cell S4_.out.b5 3).trans rfl
            have q4 := (blk_cell S4_.out.b5 4).trans rfl
            have fz0 := blk_frozen S4_.out.b5 0
            have fz1 := blk_frozen S4_.out.b5 1
            have fz2 := blk_frozen S4_.out.b5 2
            have fz3 := blk_frozen S4_.out.b5 3
            have fz4 := blk_frozen S4_.out.b5 4
            have x0 := (blk_cell S4_.out.bx 0).trans rfl
            have x1 := (blk_cell S4_.out.bx 1).trans rfl
            have x2 := (blk_cell S4_.out.bx 2).trans rfl
            have x3 := (blk_cell S4_.out.bx 3).trans rfl
            have x4 := (blk_cell S4_.out.bx 4).trans rfl
            go_upto_region 11 with (fail)
            go_quiet (fail)
            go_upto_region 13 with (fail)
            refine impl_PipeHear.gen (fun W => impl_PipeHear.PS w0 W0 W g a1_0 a1_1 a1_2 a1_3 a1_4 e p_ a1_3 n_ A6 c6 m_) (S4_.out.drewN _) ?_
            clear q0 fz0 x0 q1 fz1 x1 q2 fz2 x2 q3 fz3 x3 q4 fz4 x4
            clear S4_
            intro X1 h_
            have SX := Aside0.mk h_
            clear h_
            have h := H.out
            simp only [Option.some.injEq, Prod.mk.injEq] at h
            obtain ⟨rfl, rfl, rfl, rfl, rfl, rfl, rfl⟩ := h
            clear H
            have q0 := (blk_cell SX.out.b5 0).trans rfl
            have q1 := (blk_cell SX.out.b5 1).trans rfl
            have q2 := (blk_cell SX.out.b5 2).trans rfl
            have q3 := (blk_cell SX.out.b5 3).trans rfl
            have q4 := (blk_cell SX.out.b5 4).trans rfl
            have fz0 := blk_frozen SX.out.b5 0
            have fz1 := blk_frozen SX.out.b5 1
            have fz2 := blk_frozen SX.out.b5 2
            have fz3 := blk_frozen SX.out.b5 3
            have fz4 := blk_frozen SX.out.b5 4
            have x0 := (blk_cell SX.out.bx 0).trans rfl
            have x1 := (blk_cell SX.out.bx 1).trans rfl
            have x2 := (blk_cell SX.out.bx 2).trans rfl
            have x3 := (blk_cell SX.out.bx 3).trans rfl
            have x4 := (blk_cell SX.out.bx 4).trans rfl
            go_upto_region 14 with (fail)
            refine impl_PipeHear.gen (fun W => impl_PipeHear.PS w0 W0 W g a1_0 a1_1 a1_2 a1_3 a1_4 e p_ a1_3 a1_2 A6 c6 m_) (SX.out.sn a1_2) ?_
            clear q0 fz0 x0 q1 fz1 x1 q2 fz2 x2 q3 fz3 x3 q4 fz4 x4
            clear SX
            intro X2 h_
            have SY := Aside0.mk h_
            clear h_
            have x4 := (blk_cell SY.out.bx 4).trans rfl
            go_wp2_with fail
            go_ret2
            exact SY.out.one _
          · have h := H.out
            rw [if_neg cn] at h
            have H := Aside0.mk h
            clear h
            have d0cn : (a1_2 != wrap64 (n_ + 1)) = true := bne_iff_ne.mpr cn
            have d1cn : (a1_2 == wrap64 (n_ + 1)) = false := beq_eq_false_iff_ne.mpr cn
            have d2cn : (a1_2 != IntKind.i64.wrap (n_ + 1)) = true := by rw [i64_w]; exact d0cn
            clear cn
            have q0 := (blk_cell S4_.out.b5 0).trans rfl
            have q1 := (blk_cell S4_.out.b5 1).trans rfl
            have q2 := (blk_cell S4_.out.b5 2).trans rfl
            have q3 := (blk_cell S4_.out.b5 3).trans rfl
            have q4 := (blk_cell S4_.out.b5 4).trans rfl
            have fz0 := blk_frozen S4_.out.b5 0
            have fz1 := blk_frozen S4_.out.b5 1
            have fz2 := blk_frozen S4_.out.b5 2
            have fz3 := blk_frozen S4_.out.b5 3
            have fz4 := blk_frozen S4_.out.b5 4
            have x0 := (blk_cell S4_.out.bx 0).trans rfl
            have x1 := (blk_cell S4_.out.bx 1).trans rfl
            have x2 := (blk_cell S4_.out.bx 2).trans rfl
            have x3 := (blk_cell S4_.out.bx 3).trans rfl
            have x4 := (blk_cell S4_.out.bx 4).trans rfl
            go_upto_region 11 with (fail)
            go_quiet (fail)
            go_upto_region 12 with (fail)
            refine impl_PipeHear.gen (fun W => impl_PipeHear.PS w0 W0 W g a1_0 a1_1 a1_2 a1_3 a1_4 e p_ a1_3 n_ A6 c6 m_) (S4_.out.drewN _) ?_
            clear q0 fz0 x0 q1 fz1 x1 q2 fz2 x2 q3 fz3 x3 q4 fz4 x4
            clear S4_
            intro X1 h_
            have SX := Aside0.mk h_
            clear h_
            have h := H.out
            simp only [Option.some.injEq, Prod.mk.injEq] at h
            obtain ⟨rfl, rfl, rfl, rfl, rfl, rfl, rfl⟩ := h
            clear H
            (try go_wp2_with fail)
            go_ret2
            exact SX.out.none _
        · rw [if_neg k1] at qa
          simp only [Option.some.injEq, Prod.mk.injEq] at qa
          obtain ⟨rfl, rfl⟩ := qa
          have hin : impl_in.f (wrap64 (a1_3 - b_)) 1 (l_.length : Int) = some false := impl_PipeHear.inF k1
          refine (impl_in.calls _ _ _ _ _ hin).mono ?_
          rintro e1_ w1_ ⟨rfl, hd⟩
          obtain ⟨m1, hm1⟩ := hd.out
          have S2_ := Aside0.mk (show impl_PipeHear.PS w0 W0 w1_ g a1_0 a1_1 a1_2 a1_3 a1_4 e p_ b_ n_ A_ c_ l_ from hm1 ▸ S1_.out.drewN m1)
          clear hd hm1 hin
          clear q0 fz0 x0 q1 fz1 x1 q2 fz2 x2 q3 fz3 x3 q4 fz4 x4
          clear S1_
          clear k1 hcl
          (try clear hcl)
          go_upto_region 11 with (fail)
          by_cases cn : a1_2 = wrap64 (n_ + 1)
          · have h := H.out
            rw [if_pos cn] at h
            have H := Aside0.mk h
            clear h
            have d0cn : (a1_2 != wrap64 (n_ + 1)) = false := bne_eq_false_iff_eq.mpr cn
            have d1cn : (a1_2 == wrap64 (n_ + 1)) = true := beq_iff_eq.mpr cn
            have d2cn : (a1_2 != IntKind.i64.wrap (n_ + 1)) = false := by rw [i64_w]; exact d0cn
            clear cn
            have q0 := (blk_cell S2_.out.b5 0).trans rfl
            have q1 := (blk_cell S2_.out.b5 1).trans rfl
            have q2 := (blk_cell S2_.out.b5 2).trans rfl
            have q3 := (blk_cell S2_.out.b5 3).trans rfl
            have q4 := (blk_cell S2_.out.b5 4).trans rfl
            have fz0 := blk_frozen S2_.out.b5 0
            have fz1 := blk_frozen S2_.out.b5 1
            have fz2 := blk_frozen S2_.out.b5 2
            have fz3 := blk_frozen S2_.out.b5 3
            have fz4 := blk_frozen S2_.out.b5 4
            have x0 := (blk_cell S2_.out.bx 0).trans rfl
            have x1 := (blk_cell S2_.out.bx 1).trans rfl
            have x2 := (blk_cell S2_.out.bx 2).trans rfl
            have x3 := (blk_cell S2_.out.bx 3).trans rfl
            have x4 := (blk_cell S2_.out.bx 4).trans rfl
            go_upto_region 11 with (fail)
            go_quiet (fail)
            go_upto_region 13 with (fail)
            refine impl_PipeHear.gen (fun W => impl_PipeHear.PS w0 W0 W g a1_0 a1_1 a1_2 a1_3 a1_4 e p_ b_ n_ A_ c_ l_) (S2_.out.drewN _) ?_
            clear q0 fz0 x0 q1 fz1 x1 q2 fz2 x2 q3 fz3 x3 q4 fz4 x4
            clear S2_
            intro X1 h_
            have SX := Aside0.mk h_
            clear h_
            have h := H.out
            simp only [Option.some.injEq, Prod.mk.injEq] at h
            obtain ⟨rfl, rfl, rfl, rfl, rfl, rfl, rfl⟩ := h
            clear H
            have q0 := (blk_cell SX.out.b5 0).trans rfl
            have q1 := (blk_cell SX.out.b5 1).trans rfl
            have q2 := (blk_cell SX.out.b5 2).trans rfl
            have q3 := (blk_cell SX.out.b5 3).trans rfl
            have q4 := (blk_cell SX.out.b5 4).trans rfl
            have fz0 := blk_frozen SX.out.b5 0
            have fz1 := blk_frozen SX.out.b5 1
            have fz2 := blk_frozen SX.out.b5 2
            have fz3 := blk_frozen SX.out.b5 3
            have fz4 := blk_frozen SX.out.b5 4
            have x0 := (blk_cell SX.out.bx 0).trans rfl
            have x1 := (blk_cell SX.out.bx 1).trans rfl
            have x2 := (blk_cell SX.out.bx 2).trans rfl
            have x3 := (blk_cell SX.out.bx 3).trans rfl
            have x4 := (blk_cell SX.out.bx 4).trans rfl
            go_upto_region 14 with (fail)
            refine impl_PipeHear.gen (fun W => impl_PipeHear.PS w0 W0 W g a1_0 a1_1 a1_2 a1_3 a1_4 e p_ b_ a1_2 A_ c_ l_) (SX.out.sn a1_2) ?_
            clear q0 fz0 x0 q1 fz1 x1 q2 fz2 x2 q3 fz3 x3 q4 fz4 x4
            clear SX
            intro X2 h_
            have SY := Aside0.mk h_
            clear h_
            have x4 := (blk_cell SY.out.bx 4).trans rfl
            go_wp2_with fail
            go_ret2
            exact SY.out.one _
          · have h := H.out
            rw [if_neg cn] at h
            have H := Aside0.mk h
            clear h
            have d0cn : (a1_2 != wrap64 (n_ + 1)) = true := bne_iff_ne.mpr cn
            have d1cn : (a1_2 == wrap64 (n_ + 1)) = false := beq_eq_false_iff_ne.mpr cn
            have d2cn : (a1_2 != IntKind.i64.wrap (n_ + 1)) = true := by rw [i64_w]; exact d0cn
            clear cn
            have q0 := (blk_cell S2_.out.b5 0).trans rfl
            have q1 := (blk_cell S2_.out.b5 1).trans rfl
            have q2 := (blk_cell S2_.out.b5 2).trans rfl
            have q3 := (blk_cell S2_.out.b5 3).trans rfl
            have q4 := (blk_cell S2_.out.b5 4).trans rfl
            have fz0 := blk_frozen S2_.out.b5 0
            have fz1 := blk_frozen S2_.out.b5 1
            have fz2 := blk_frozen S2_.out.b5 2
            have fz3 := blk_frozen S2_.out.b5 3
            have fz4 := blk_frozen S2_.out.b5 4
            have x0 := (blk_cell S2_.out.bx 0).trans rfl
            have x1 := (blk_cell S2_.out.bx 1).trans rfl
            have x2 := (blk_cell S2_.out.bx 2).trans rfl
            have x3 := (blk_cell S2_.out.bx 3).trans rfl
            have x4 := (blk_cell S2_.out.bx 4).trans rfl
            go_upto_region 11 with (fail)
            go_quiet (fail)
            go_upto_region 12 with (fail)
            refine impl_PipeHear.gen (fun W => impl_PipeHear.PS w0 W0 W g a1_0 a1_1 a1_2 a1_3 a1_4 e p_ b_ n_ A_ c_ l_) (S2_.out.drewN _) ?_
            clear q0 fz0 x0 q1 fz1 x1 q2 fz2 x2 q3 fz3 x3 q4 fz4 x4
            clear S2_
            intro X1 h_
            have SX := Aside0.mk h_
            clear h_
            have h := H.out
            simp only [Option.some.injEq, Prod.mk.injEq] at h
            obtain ⟨rfl, rfl, rfl, rfl, rfl, rfl, rfl⟩ := h
            clear H
            (try go_wp2_with fail)
            go_ret2
            exact SX.out.none _
      · have h := H.out
        rw [if_neg ce] at h
        have H := Aside0.mk h
        clear h
        have d0ce : (a1_1 != e) = true := bne_iff_ne.mpr ce
        have d1ce : (a1_1 == e) = false := beq_eq_false_iff_ne.mpr ce
        clear ce
        have q0 := (blk_cell SB.out.b5 0).trans rfl
        have q1 := (blk_cell SB.out.b5 1).trans rfl
        have q2 := (blk_cell SB.out.b5 2).trans rfl
        have q3 := (blk_cell SB.out.b5 3).trans rfl
        have q4 := (blk_cell SB.out.b5 4).trans rfl
        have fz0 := blk_frozen SB.out.b5 0
        have fz1 := blk_frozen SB.out.b5 1
        have fz2 := blk_frozen SB.out.b5 2
        have fz3 := blk_frozen SB.out.b5 3
        have fz4 := blk_frozen SB.out.b5 4
        have x0 := (blk_cell SB.out.bx 0).trans rfl
        have x1 := (blk_cell SB.out.bx 1).trans rfl
        have x2 := (blk_cell SB.out.bx 2).trans rfl
        have x3 := (blk_cell SB.out.bx 3).trans rfl
        have x4 := (blk_cell SB.out.bx 4).trans rfl
        go_upto_region 6 with (fail)
        go_quiet (fail)
        go_upto_region 7 with (fail)
        refine impl_PipeHear.gen (fun W => impl_PipeHear.PS w0 W0 W g a1_0 a1_1 a1_2 a1_3 a1_4 e p_ b_ n_ A_ c_ l_) (SB.out.drewN _) ?_
        clear q0 fz0 x0 q1 fz1 x1 q2 fz2 x2 q3 fz3 x3 q4 fz4 x4
        clear SB
        intro X0 h_
        have S0_ := Aside0.mk h_
        clear h_
        have h := H.out
        simp only [Option.some.injEq, Prod.mk.injEq] at h
        obtain ⟨rfl, rfl, rfl, rfl, rfl, rfl, rfl⟩ := h
        clear H
        (try go_wp2_with fail)
        go_ret2
        exact S0_.out.none _
theorem impl_PipeHear.fin {W : World} {g : Nat} {o0 o1 o2 o3 o4 o5 o6 o7 : Value} (h : W.heap[g]? = some (.cells #[o0, o1, o2, o3, o4, o5, o6, o7] 26 (0, 0))) (v0 v1 v2 v3 v4 v5 v6 v7 : Value) : ((((((((W.setCell ⟨g, 0, none⟩ v0).setCell ⟨g, 1, none⟩ v1).setCell ⟨g, 2, none⟩ v2).setCell ⟨g, 3, none⟩ v3).setCell ⟨g, 4, none⟩ v4).setCell ⟨g, 5, none⟩ v5).setCell ⟨g, 6, none⟩ v6).setCell ⟨g, 7, none⟩ v7).heap[g]? = some (.cells #[v0, v1, v2, v3, v4, v5, v6, v7] 26 (0, 0)) := by
  have h1 := blk_set h 0 v0
  have h2 := blk_set h1 1 v1
  have h3 := blk_set h2 2 v2
  have h4 := blk_set h3 3 v3
  have h5 := blk_set h4 4 v4
  have h6 := blk_set h5 5 v5
  have h7 := blk_set h6 6 v6
  have h8 := blk_set h7 7 v7
  simpa using h8
theorem impl_PipeHear.set8 {w W : World} {g : Nat} (hg : w.heap.size ≤ g) (h : Below w.heap.size w W) (v0 v1 v2 v3 v4 v5 v6 v7 : Value) : Below w.heap.size w ((((((((W.setCell ⟨g, 0, none⟩ v0).setCell ⟨g, 1, none⟩ v1).setCell ⟨g, 2, none⟩ v2).setCell ⟨g, 3, none⟩ v3).setCell ⟨g, 4, none⟩ v4).setCell ⟨g, 5, none⟩ v5).setCell ⟨g, 6, none⟩ v6).setCell ⟨g, 7, none⟩ v7) := (below_set (below_set (below_set (below_set (below_set (below_set (below_set (below_set h hg) hg) hg) hg) hg) hg) hg) hg)
theorem impl_PipeHear.row8 {W : World} {g base : Nat} {ok : Nat → Prop} {v : Value} {l : List ByteArray} {cs : Array Value} (hb : W.heap[g]? = some (.cells cs 26 (0, 0))) (h : Kd.R Kd.string 9 W base ok v l) (v0 v1 v2 v3 v4 v5 v6 v7 : Value) : Kd.R Kd.string 9 ((((((((W.setCell ⟨g, 0, none⟩ v0).setCell ⟨g, 1, none⟩ v1).setCell ⟨g, 2, none⟩ v2).setCell ⟨g, 3, none⟩ v3).setCell ⟨g, 4, none⟩ v4).setCell ⟨g, 5, none⟩ v5).setCell ⟨g, 6, none⟩ v6).setCell ⟨g, 7, none⟩ v7) base ok v l := Kd.R_mono (Kd.R_far (p := ⟨g, 7, none⟩) (Kd.R_far (p := ⟨g, 6, none⟩) (Kd.R_far (p := ⟨g, 5, none⟩) (Kd.R_far (p := ⟨g, 4, none⟩) (Kd.R_far (p := ⟨g, 3, none⟩) (Kd.R_far (p := ⟨g, 2, none⟩) (Kd.R_far (p := ⟨g, 1, none⟩) (Kd.R_far (p := ⟨g, 0, none⟩) (Kd.R_types h hb (by decide)) (fun _ hk => hk.2) _) (fun _ hk => hk.2) _) (fun _ hk => hk.2) _) (fun _ hk => hk.2) _) (fun _ hk => hk.2) _) (fun _ hk => hk.2) _) (fun _ hk => hk.2) _) (fun _ hk => hk.2) _) (fun _ hk => hk.1)
theorem impl_PipeHear.ofacts {W : World} {g : Nat} (h : W.heap[g]? = some (.cells #[.int .i64 0, .int .i64 0, .int .i64 0, .int .i64 0, .slice none 0 0, .slice none 0 0, .bool false, .int .i64 0] 26 (0, 0))) :
    W.cell? ⟨g, 0, none⟩ = some (.int .i64 0) ∧ W.cell? ⟨g, 1, none⟩ = some (.int .i64 0) ∧ W.cell? ⟨g, 2, none⟩ = some (.int .i64 0) ∧ W.cell? ⟨g, 3, none⟩ = some (.int .i64 0) ∧ W.cell? ⟨g, 4, none⟩ = some (.slice none 0 0) ∧ W.cell? ⟨g, 5, none⟩ = some (.slice none 0 0) ∧ W.cell? ⟨g, 6, none⟩ = some (.bool false) ∧ W.cell? ⟨g, 7, none⟩ = some (.int .i64 0) ∧ W.frozen? ⟨g, 0, none⟩ = false ∧ W.frozen? ⟨g, 1, none⟩ = false ∧ W.frozen? ⟨g, 2, none⟩ = false ∧ W.frozen? ⟨g, 3, none⟩ = false ∧ W.frozen? ⟨g, 4, none⟩ = false ∧ W.frozen? ⟨g, 5, none⟩ = false ∧ W.frozen? ⟨g, 6, none⟩ = false ∧ W.frozen? ⟨g, 7, none⟩ = false :=
  ⟨(blk_cell h 0).trans rfl, (blk_cell h 1).trans rfl, (blk_cell h 2).trans rfl, (blk_cell h 3).trans rfl, (blk_cell h 4).trans rfl, (blk_cell h 5).trans rfl, (blk_cell h 6).trans rfl, (blk_cell h 7).trans rfl, blk_frozen h 0, blk_frozen h 1, blk_frozen h 2, blk_frozen h 3, blk_frozen h 4, blk_frozen h 5, blk_frozen h 6, blk_frozen h 7⟩
theorem impl_PipeHear.three (w : World) (pc xc : Array Value) : (((w.alloc (.cells pc 24)).alloc (.cells xc 35)).alloc (.cells #[.int .i64 0, .int .i64 0, .int .i64 0, .int .i64 0, .slice none 0 0, .slice none 0 0, .bool false, .int .i64 0] 26)).heap[w.heap.size]? = some (.cells pc 24 (0, 0)) ∧ (((w.alloc (.cells pc 24)).alloc (.cells xc 35)).alloc (.cells #[.int .i64 0, .int .i64 0, .int .i64 0, .int .i64 0, .slice none 0 0, .slice none 0 0, .bool false, .int .i64 0] 26)).heap[w.heap.size + 1]? = some (.cells xc 35 (0, 0)) ∧ (((w.alloc (.cells pc 24)).alloc (.cells xc 35)).alloc (.cells #[.int .i64 0, .int .i64 0, .int .i64 0, .int .i64 0, .slice none 0 0, .slice none 0 0, .bool false, .int .i64 0] 26)).heap[w.heap.size + 1 + 1]? = some (.cells #[.int .i64 0, .int .i64 0, .int .i64 0, .int .i64 0, .slice none 0 0, .slice none 0 0, .bool false, .int .i64 0] 26 (0, 0)) ∧ Below w.heap.size w (((w.alloc (.cells pc 24)).alloc (.cells xc 35)).alloc (.cells #[.int .i64 0, .int .i64 0, .int .i64 0, .int .i64 0, .slice none 0 0, .slice none 0 0, .bool false, .int .i64 0] 26)) :=
  ⟨blk_alloc (blk_alloc (blk_new w _) _) _, blk_alloc (by simpa using heap_alloc_new (w.alloc (.cells pc 24)) (.cells xc 35)) _, by simpa using heap_alloc_new ((w.alloc (.cells pc 24)).alloc (.cells xc 35)) (.cells #[.int .i64 0, .int .i64 0, .int .i64 0, .int .i64 0, .slice none 0 0, .slice none 0 0, .bool false, .int .i64 0] 26), below_alloc (below_alloc (below_alloc (Below.refl _ _) _) _) _⟩
def impl_PipeHear.f (a0_0 a0_1 a0_2 a0_3 : Int) (l0_4 : List ByteArray) (a1_0 a1_1 a1_2 a1_3 : Int) (a1_4 : ByteArray) : Option (Int × Int × Int × Int × List ByteArray × List ByteArray × Bool × Int) :=
  (impl_PipeRight.f a0_0 a0_1 a0_2 a0_3 l0_4).bind fun ok => if ok = false then some (0, 0, 0, 0, [], [], false, 1) else
  (impl_PacketRight.f a1_0 a1_1 a1_2 a1_3 a1_4).bind fun ok2 => if ok2 = false then some (0, 0, 0, 0, [], [], false, 1) else
  (impl_Pipe_copied.f a0_0 a0_1 a0_2 a0_3 l0_4).bind fun y => (impl_PipeHear.hf y.1 y.2.1 y.2.2.1 y.2.2.2.1 y.2.2.2.2 a1_0 a1_1 a1_2 a1_3 a1_4).bind fun z =>
  some (z.1, z.2.1, z.2.2.1, z.2.2.2.1, z.2.2.2.2.1, z.2.2.2.2.2.1, z.2.2.2.2.2.2, 0)
set_option maxHeartbeats 3200000 in
set_option maxRecDepth 100000 in
theorem impl_PipeHear.calls (a0_0 : Int) (a0_1 : Int) (a0_2 : Int) (a0_3 : Int) (A0_4 : Option Addr) (c0_4 : Nat) (l0_4 : List ByteArray) (a1_0 : Int) (a1_1 : Int) (a1_2 : Int) (a1_3 : Int) (a1_4 : ByteArray) (r1 : Int) (r2 : Int) (r3 : Int) (r4 : Int) (r5 : List ByteArray) (r6 : List ByteArray) (r7 : Bool) (r8 : Int) (w : World) (hr0_4 : Kd.C Kd.string w A0_4 l0_4.length l0_4) (hc0_4 : l0_4.length ≤ c0_4) (h : impl_PipeHear.f a0_0 a0_1 a0_2 a0_3 l0_4 a1_0 a1_1 a1_2 a1_3 a1_4 = some (r1, r2, r3, r4, r5, r6, r7, r8)) :
    Calls Try.prog 75 #[.agg #[.int .i64 a0_0, .int .i64 a0_1, .int .i64 a0_2, .int .i64 a0_3, .slice A0_4 l0_4.length c0_4], .agg #[.int .i64 a1_0, .int .i64 a1_1, .int .i64 a1_2, .int .i64 a1_3, .string a1_4]] w fun e w' => ∃ v4_ v5_ : Value, e = .returned (.agg #[.int .i64 r1, .int .i64 r2, .int .i64 r3, .int .i64 r4, v4_, v5_, .bool r7, .int .i64 r8]) ∧ Kd.R Kd.string 9 w' w.heap.size (fun k_ => some k_ ≠ (v5_ : Value).ownBlock) v4_ r5 ∧ Kd.R Kd.string 9 w' w.heap.size (fun k_ => some k_ ≠ (v4_ : Value).ownBlock) v5_ r6 ∧ Below w.heap.size w w' := by
  have hu24 := Try.underlying24
  have hu26 := Try.underlying26
  have hu35 := Try.underlying35
  unfold impl_PipeHear.f at h
  have HR := Aside0.mk hr0_4
  have HC := Aside0.mk hc0_4
  clear hr0_4 hc0_4
  replace h := Option.bind_eq_some_iff.mp h
  obtain ⟨ok, qok, h⟩ := h
  have QOK := Aside0.mk qok
  have H := Aside0.mk h
  clear qok h
  have W0s := impl_PipeHear.three w #[.int .i64 a0_0, .int .i64 a0_1, .int .i64 a0_2, .int .i64 a0_3, .slice A0_4 l0_4.length c0_4] #[.int .i64 a1_0, .int .i64 a1_1, .int .i64 a1_2, .int .i64 a1_3, .string a1_4]
  have BP1 := Aside0.mk W0s.1
  have BX1 := Aside0.mk W0s.2.1
  have BO1 := Aside0.mk W0s.2.2.1
  have BL1 := Aside0.mk W0s.2.2.2
  clear W0s
  go_enter Try.func75, Try.ntmps75
  go_upto_region 1 with (fail)
  refine impl_PipeHear.gen (fun W => W.heap[w.heap.size]? = some (.cells #[.int .i64 a0_0, .int .i64 a0_1, .int .i64 a0_2, .int .i64 a0_3, .slice A0_4 l0_4.length c0_4] 24 (0, 0)) ∧ W.heap[w.heap.size + 1]? = some (.cells #[.int .i64 a1_0, .int .i64 a1_1, .int .i64 a1_2, .int .i64 a1_3, .string a1_4] 35 (0, 0)) ∧ W.heap[w.heap.size + 1 + 1]? = some (.cells #[.int .i64 0, .int .i64 0, .int .i64 0, .int .i64 0, .slice none 0 0, .slice none 0 0, .bool false, .int .i64 0] 26 (0, 0)) ∧ Below w.heap.size w W) ⟨BP1.out, BX1.out, BO1.out, BL1.out⟩ ?_
  clear BP1 BX1 BO1 BL1
  rintro W1 ⟨bp, bx, bo, bl⟩
  have BP1 := Aside0.mk bp
  have BX1 := Aside0.mk bx
  have BO1 := Aside0.mk bo
  have BL1 := Aside0.mk bl
  clear bp bx bo bl
  have p0 := (blk_cell BP1.out 0).trans rfl
  have p1 := (blk_cell BP1.out 1).trans rfl
  have p2 := (blk_cell BP1.out 2).trans rfl
  have p3 := (blk_cell BP1.out 3).trans rfl
  have p4 := (blk_cell BP1.out 4).trans rfl
  go_wp2_with fail
  go_at_call 119
  with_reducible refine (impl_PipeRight.calls a0_0 a0_1 a0_2 a0_3 A0_4 c0_4 l0_4 ok _ (Kd.C_below HR.out BL1.out) HC.out QOK.out).mono ?_
  rintro e w2 ⟨rfl, hb⟩
  have BP2 := Aside0.mk (blk_below BP1.out hb)
  have BX2 := Aside0.mk (blk_below BX1.out hb)
  have BO2 := Aside0.mk (blk_below BO1.out hb)
  have BL2 := Aside0.mk (below_step BL1.out hb)
  clear BP1 BX1 BO1 BL1 hb p0 p1 p2 p3 p4
  have p0 := (blk_cell BP2.out 0).trans rfl
  have p1 := (blk_cell BP2.out 1).trans rfl
  have p2 := (blk_cell BP2.out 2).trans rfl
  have p3 := (blk_cell BP2.out 3).trans rfl
  have p4 := (blk_cell BP2.out 4).trans rfl
  have x0 := (blk_cell BX2.out 0).trans rfl
  have x1 := (blk_cell BX2.out 1).trans rfl
  have x2 := (blk_cell BX2.out 2).trans rfl
  have x3 := (blk_cell BX2.out 3).trans rfl
  have x4 := (blk_cell BX2.out 4).trans rfl
  obtain ⟨o0, o1, o2, o3, o4, o5, o6, o7, f0, f1, f2, f3, f4, f5, f6, f7⟩ := impl_PipeHear.ofacts BO2.out
  have h := H.out
  cases ok with
  | false =>
    rw [if_pos rfl] at h
    simp only [Option.some.injEq, Prod.mk.injEq] at h
    obtain ⟨rfl, rfl, rfl, rfl, rfl, rfl, rfl, rfl⟩ := h
    clear H
    go_wp2_with fail
    refine bodyPost_ret (results_cell_row rfl _ _ (w.heap.size + 1 + 1) 26 _ (0, 0) _ rfl (impl_PipeHear.fin BO2.out _ _ _ _ _ _ _ _) Try.underlying26 rfl (by kernel_rfl)) rfl ⟨_, _, rfl, Kd.R_nil _ _ _ _ _, Kd.R_nil _ _ _ _ _, impl_PipeHear.set8 (by omega) BL2.out _ _ _ _ _ _ _ _⟩
  | true =>
    rw [if_neg (by decide)] at h
    replace h := Option.bind_eq_some_iff.mp h
    obtain ⟨ok2, qok2, h⟩ := h
    have QK := Aside0.mk qok2
    have H := Aside0.mk h
    clear qok2 h
    go_wp2_with fail
    go_at_call 84
    with_reducible refine (impl_PacketRight.calls a1_0 a1_1 a1_2 a1_3 a1_4 ok2 _ QK.out).mono ?_
    rintro e w3 ⟨rfl, hb⟩
    have BP3 := Aside0.mk (blk_below BP2.out hb)
    have BX3 := Aside0.mk (blk_below BX2.out hb)
    have BO3 := Aside0.mk (blk_below BO2.out hb)
    have BL3 := Aside0.mk (below_step BL2.out hb)
    clear BP2 BX2 BO2 BL2 hb
    clear p0 x0 p1 x1 p2 x2 p3 x3 p4 x4
    clear o0 f0 o1 f1 o2 f2 o3 f3 o4 f4 o5 f5 o6 f6 o7 f7
    have p0 := (blk_cell BP3.out 0).trans rfl
    have p1 := (blk_cell BP3.out 1).trans rfl
    have p2 := (blk_cell BP3.out 2).trans rfl
    have p3 := (blk_cell BP3.out 3).trans rfl
    have p4 := (blk_cell BP3.out 4).trans rfl
    have x0 := (blk_cell BX3.out 0).trans rfl
    have x1 := (blk_cell BX3.out 1).trans rfl
    have x2 := (blk_cell BX3.out 2).trans rfl
    have x3 := (blk_cell BX3.out 3).trans rfl
    have x4 := (blk_cell BX3.out 4).trans rfl
    obtain ⟨o0, o1, o2, o3, o4, o5, o6, o7, f0, f1, f2, f3, f4, f5, f6, f7⟩ := impl_PipeHear.ofacts BO3.out
    have h := H.out
    cases ok2 with
    | false =>
      rw [if_pos rfl] at h
      simp only [Option.some.injEq, Prod.mk.injEq] at h
      obtain ⟨rfl, rfl, rfl, rfl, rfl, rfl, rfl, rfl⟩ := h
      clear H
      go_wp2_with fail
      refine bodyPost_ret (results_cell_row rfl _ _ (w.heap.size + 1 + 1) 26 _ (0, 0) _ rfl (impl_PipeHear.fin BO3.out _ _ _ _ _ _ _ _) Try.underlying26 rfl (by kernel_rfl)) rfl ⟨_, _, rfl, Kd.R_nil _ _ _ _ _, Kd.R_nil _ _ _ _ _, impl_PipeHear.set8 (by omega) BL3.out _ _ _ _ _ _ _ _⟩
    | true =>
      rw [if_neg (by decide)] at h
      replace h := Option.bind_eq_some_iff.mp h
      obtain ⟨⟨y0, y1, y2, y3, l⟩, qc, h⟩ := h
      have QC := Aside0.mk qc
      replace h := Option.bind_eq_some_iff.mp h
      obtain ⟨⟨z0, z1, z2, z3, z4, z5, z6⟩, qh, h⟩ := h
      have QH := Aside0.mk qh
      simp only [Option.some.injEq, Prod.mk.injEq] at h
      obtain ⟨rfl, rfl, rfl, rfl, rfl, rfl, rfl, rfl⟩ := h
      clear qc qh H
      go_wp2_with fail
      go_at_call 132
      with_reducible refine (impl_Pipe_copied.calls a0_0 a0_1 a0_2 a0_3 A0_4 c0_4 l0_4 y0 y1 y2 y3 l _ (Kd.C_below HR.out BL3.out) HC.out QC.out).mono ?_
      rintro e w4 ⟨v4_, rfl, ho, hb⟩
      obtain ⟨A4, c4, rfl⟩ := Kd.R_slice ho
      obtain ⟨g5, hg5⟩ : ∃ g5, g5 = w4.heap.size := ⟨_, rfl⟩
      have hlt := Aside0.mk (show w.heap.size + 1 + 1 < g5 from hg5 ▸ Nat.lt_of_lt_of_le (blk_lt BO3.out) hb.size)
      have PW := Aside0.mk (show _ ∧ _ ∧ _ ∧ _ ∧ _ from ⟨blk_alloc (blk_below BX3.out hb) (.cells #[.int .i64 y0, .int .i64 y1, .int .i64 y2, .int .i64 y3, .slice A4 l.length c4] 24), blk_alloc (blk_below BO3.out hb) (.cells #[.int .i64 y0, .int .i64 y1, .int .i64 y2, .int .i64 y3, .slice A4 l.length c4] 24), blk_new w4 (.cells #[.int .i64 y0, .int .i64 y1, .int .i64 y2, .int .i64 y3, .slice A4 l.length c4] 24), Kd.R_lower (Kd.R_alloc ho (.cells #[.int .i64 y0, .int .i64 y1, .int .i64 y2, .int .i64 y3, .slice A4 l.length c4] 24)) BL3.out.size, below_alloc (below_step BL3.out hb) (.cells #[.int .i64 y0, .int .i64 y1, .int .i64 y2, .int .i64 y3, .slice A4 l.length c4] 24)⟩)
      rw [← hg5] at PW
      clear BP3 BX3 BO3 BL3 hb ho QC
      clear p0 x0 p1 x1 p2 x2 p3 x3 p4 x4
      clear o0 f0 o1 f1 o2 f2 o3 f3 o4 f4 o5 f5 o6 f6 o7 f7
      go_upto_region 4 with (fail)
      rw [← hg5]
      refine impl_PipeHear.gen (fun W => W.heap[w.heap.size + 1]? = some (.cells #[.int .i64 a1_0, .int .i64 a1_1, .int .i64 a1_2, .int .i64 a1_3, .string a1_4] 35 (0, 0)) ∧ W.heap[w.heap.size + 1 + 1]? = some (.cells #[.int .i64 0, .int .i64 0, .int .i64 0, .int .i64 0, .slice none 0 0, .slice none 0 0, .bool false, .int .i64 0] 26 (0, 0)) ∧ W.heap[g5]? = some (.cells #[.int .i64 y0, .int .i64 y1, .int .i64 y2, .int .i64 y3, .slice A4 l.length c4] 24 (0, 0)) ∧ Kd.R Kd.string 9 W w.heap.size (fun _ => True) (.slice A4 l.length c4) l ∧ Below w.heap.size w W) PW.out ?_
      clear PW hg5
      rintro W5 ⟨bx, bo, b5, ho, bl⟩
      have BX4 := Aside0.mk bx
      have BO4 := Aside0.mk bo
      have B54 := Aside0.mk b5
      have HO4 := Aside0.mk ho
      have BL4 := Aside0.mk bl
      clear bx bo b5 ho bl
      have x0 := (blk_cell BX4.out 0).trans rfl
      have x1 := (blk_cell BX4.out 1).trans rfl
      have x2 := (blk_cell BX4.out 2).trans rfl
      have x3 := (blk_cell BX4.out 3).trans rfl
      have x4 := (blk_cell BX4.out 4).trans rfl
      go_wp2_with fail
      go_at_call 135
      refine (impl_PipeHear.hear a1_0 a1_1 a1_2 a1_3 a1_4 y0 y1 y2 y3 A4 c4 l z0 z1 z2 z3 z4 z5 z6 B54.out HO4.out (by have := hlt.out; omega) BL4.out QH.out).mono ?_
      rintro e w6 ⟨v, vt, rfl, b5, ho, ht, bl, kp⟩
      obtain ⟨A6, c6, rfl⟩ := Kd.R_slice ho
      obtain ⟨A7, c7, rfl⟩ := Kd.R_slice ht
      have BO6 := Aside0.mk (kp _ _ _ BO4.out (Nat.ne_of_lt hlt.out) (by decide))
      have B56 := Aside0.mk b5
      have HO6 := Aside0.mk ho
      have HT6 := Aside0.mk ht
      have BL6 := Aside0.mk bl
      clear b5 ho ht bl kp BX4 BO4 B54 HO4 BL4 x0 x1 x2 x3 x4
      obtain ⟨o0, o1, o2, o3, o4, o5, o6, o7, f0, f1, f2, f3, f4, f5, f6, f7⟩ := impl_PipeHear.ofacts BO6.out
      have q0 := (blk_cell B56.out 0).trans rfl
      have q1 := (blk_cell B56.out 1).trans rfl
      have q2 := (blk_cell B56.out 2).trans rfl
      have q3 := (blk_cell B56.out 3).trans rfl
      have q4 := (blk_cell B56.out 4).trans rfl
      go_wp2_with fail
      refine bodyPost_ret (results_cell_row rfl _ _ (w.heap.size + 1 + 1) 26 _ (0, 0) _ rfl (impl_PipeHear.fin BO6.out _ _ _ _ _ _ _ _) Try.underlying26 rfl (by kernel_rfl)) rfl ⟨_, _, rfl, impl_PipeHear.row8 BO6.out HO6.out _ _ _ _ _ _ _ _, impl_PipeHear.row8 BO6.out HT6.out _ _ _ _ _ _ _ _, impl_PipeHear.set8 (by omega) BL6.out _ _ _ _ _ _ _ _⟩


end Go.Proofs.Ytkbhdiambabnnaa.PFnExactPipeHear
