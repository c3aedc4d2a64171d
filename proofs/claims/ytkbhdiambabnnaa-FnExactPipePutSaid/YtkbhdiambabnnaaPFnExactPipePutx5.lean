-- Written by a program of this session (wip/ep), out of the translation. Lean checks it.
import Derived.Test.YtkbhdiambabnnaaPFnExactPipePutx0
import Derived.Test.YtkbhdiambabnnaaPFnExactPipePutx4
namespace Go.Proofs.Ytkbhdiambabnnaa.PFnExactPipePut
open Go.RowKit Go.Proofs.YtkbhdiambabnnaaW.PrintWords Go.Proofs.YtkbhdiambabnnaaW.PrintLast Go.Proofs.YtkbhdiambabnnaaW.PrintMore
attribute [local go_sem] max2_int min2_int max_two min_two max_three min_three max_four min_four   -- for this text's walks alone
set_option linter.unusedVariables false
set_option linter.unusedSimpArgs false

/-! ### impl_PipePut: function 73 -/
def impl_PipePut.f (a0_0 : Int) (a0_1 : Int) (a0_2 : Int) (a0_3 : Int) (l0_4 : List ByteArray) (a1 : ByteArray) : Option (Int × Int × Int × Int × List ByteArray × List ByteArray × Bool × Int) :=
  if 8000 < a1.size then some (0, 0, 0, 0, [], [], false, 2) else
  (impl_PipeRight.f a0_0 a0_1 a0_2 a0_3 l0_4).bind fun ok =>
  if ok = false then some (0, 0, 0, 0, [], [], false, 1) else
  if 60 < a1.size then some (0, 0, 0, 0, [], [], false, 1) else
  (impl_Pipe_copied.f a0_0 a0_1 a0_2 a0_3 l0_4).bind fun c =>
  if c.2.1 = 0 then some (0, 0, 0, 0, [], [], false, 10) else
  if c.2.2.2.2.length = 60 then some (0, 0, 0, 0, [], [], false, 9) else
  if wrap64 (c.2.2.1 + (c.2.2.2.2.length : Int)) = 1000000 then some (0, 0, 0, 0, [], [], false, 9) else
  if c.2.2.2.2.length < 8796093022208 then some (c.1, c.2.1, c.2.2.1, c.2.2.2.1, c.2.2.2.2 ++ [a1], [], false, 0) else none
theorem impl_PipePut.gen {P : Program} {c : Code} {Q : Exit → Act → World → Prop} {a : Act} {W : World} (p : World → Prop) (h : p W) (k : ∀ W1, p W1 → Code.wp P c Q a W1) : Code.wp P c Q a W := k W h
theorem impl_PipePut.out_ (w : World) (o : Obj) : ((w.alloc o).alloc (.cells #[.int .i64 0, .int .i64 0, .int .i64 0, .int .i64 0, .slice none 0 0, .slice none 0 0, .bool false, .int .i64 0] 26)).heap[w.heap.size + 1]? = some (.cells #[.int .i64 0, .int .i64 0, .int .i64 0, .int .i64 0, .slice none 0 0, .slice none 0 0, .bool false, .int .i64 0] 26 (0, 0)) := by simpa using heap_alloc_new (w.alloc o) (.cells #[.int .i64 0, .int .i64 0, .int .i64 0, .int .i64 0, .slice none 0 0, .slice none 0 0, .bool false, .int .i64 0] 26)
theorem impl_PipePut.fin {W : World} {g : Nat} {o0 o1 o2 o3 o4 o5 o6 o7 : Value} (h : W.heap[g]? = some (.cells #[o0, o1, o2, o3, o4, o5, o6, o7] 26 (0, 0))) (v0 v1 v2 v3 v4 v5 v6 v7 : Value) : ((((((((W.setCell ⟨g, 0, none⟩ v0).setCell ⟨g, 1, none⟩ v1).setCell ⟨g, 2, none⟩ v2).setCell ⟨g, 3, none⟩ v3).setCell ⟨g, 4, none⟩ v4).setCell ⟨g, 5, none⟩ v5).setCell ⟨g, 6, none⟩ v6).setCell ⟨g, 7, none⟩ v7).heap[g]? = some (.cells #[v0, v1, v2, v3, v4, v5, v6, v7] 26 (0, 0)) := by
  have h1 := blk_set h 0 v0
  have h2 := blk_set h1 1 v1
  have h3 := blk_set h2 2 v2
  have h4 := blk_set h3 3 v3
  have h5 := blk_set h4 4 v4
  have h6 := blk_set h5 5 v5
  have h7 := blk_set h6 6 v6
  have h8 := blk_set h7 7 v7
  simpa using h8
theorem impl_PipePut.set8 {w W : World} {g : Nat} (hg : w.heap.size ≤ g) (h : Below w.heap.size w W) (v0 v1 v2 v3 v4 v5 v6 v7 : Value) : Below w.heap.size w ((((((((W.setCell ⟨g, 0, none⟩ v0).setCell ⟨g, 1, none⟩ v1).setCell ⟨g, 2, none⟩ v2).setCell ⟨g, 3, none⟩ v3).setCell ⟨g, 4, none⟩ v4).setCell ⟨g, 5, none⟩ v5).setCell ⟨g, 6, none⟩ v6).setCell ⟨g, 7, none⟩ v7) := (below_set (below_set (below_set (below_set (below_set (below_set (below_set (below_set h hg) hg) hg) hg) hg) hg) hg) hg)
theorem impl_PipePut.facts {W : World} {g : Nat} (h : W.heap[g]? = some (.cells #[.int .i64 0, .int .i64 0, .int .i64 0, .int .i64 0, .slice none 0 0, .slice none 0 0, .bool false, .int .i64 0] 26 (0, 0))) :
    W.cell? ⟨g, 0, none⟩ = some (.int .i64 0) ∧ W.cell? ⟨g, 1, none⟩ = some (.int .i64 0) ∧ W.cell? ⟨g, 2, none⟩ = some (.int .i64 0) ∧ W.cell? ⟨g, 3, none⟩ = some (.int .i64 0) ∧ W.cell? ⟨g, 4, none⟩ = some (.slice none 0 0) ∧ W.cell? ⟨g, 5, none⟩ = some (.slice none 0 0) ∧ W.cell? ⟨g, 6, none⟩ = some (.bool false) ∧ W.cell? ⟨g, 7, none⟩ = some (.int .i64 0) ∧ W.frozen? ⟨g, 0, none⟩ = false ∧ W.frozen? ⟨g, 1, none⟩ = false ∧ W.frozen? ⟨g, 2, none⟩ = false ∧ W.frozen? ⟨g, 3, none⟩ = false ∧ W.frozen? ⟨g, 4, none⟩ = false ∧ W.frozen? ⟨g, 5, none⟩ = false ∧ W.frozen? ⟨g, 6, none⟩ = false ∧ W.frozen? ⟨g, 7, none⟩ = false :=
  ⟨(blk_cell h 0).trans rfl, (blk_cell h 1).trans rfl, (blk_cell h 2).trans rfl, (blk_cell h 3).trans rfl, (blk_cell h 4).trans rfl, (blk_cell h 5).trans rfl, (blk_cell h 6).trans rfl, (blk_cell h 7).trans rfl, blk_frozen h 0, blk_frozen h 1, blk_frozen h 2, blk_frozen h 3, blk_frozen h 4, blk_frozen h 5, blk_frozen h 6, blk_frozen h 7⟩
theorem impl_PipePut.put0 {W : World} {g : Nat} {e p b n : Int} {A : Option Addr} {c : Nat} {l : List ByteArray} (t : ByteArray) (hb : W.heap[g]? = some (.cells #[.int .i64 e, .int .i64 p, .int .i64 b, .int .i64 n, .slice A l.length c] 24 (0, 0))) (hp : p = 0) : Calls Try.prog 133 #[.pointer (some ⟨g, 0, none⟩), .string t] W fun e' w' => e' = .returned (.int .i64 10) ∧ w' = W := by
  subst hp
  have hc0 := (blk_cell hb 0).trans rfl
  have hf0 := blk_frozen hb 0
  have hc1 := (blk_cell hb 1).trans rfl
  have hf1 := blk_frozen hb 1
  have hc2 := (blk_cell hb 2).trans rfl
  have hf2 := blk_frozen hb 2
  have hc3 := (blk_cell hb 3).trans rfl
  have hf3 := blk_frozen hb 3
  have hc4 := (blk_cell hb 4).trans rfl
  have hf4 := blk_frozen hb 4
  clear hb
  go_enter Try.func133, Try.ntmps133
  go_wp2
  go_ret
  exact ⟨rfl, rfl⟩
set_option maxHeartbeats 1600000 in
theorem impl_PipePut.put9 {W : World} {g : Nat} {e p b n : Int} {A : Option Addr} {c : Nat} {l : List ByteArray} (t : ByteArray) (hb : W.heap[g]? = some (.cells #[.int .i64 e, .int .i64 p, .int .i64 b, .int .i64 n, .slice A l.length c] 24 (0, 0))) (hp : p ≠ 0) (h : l.length = 60 ∨ wrap64 (b + (l.length : Int)) = 1000000) : Calls Try.prog 133 #[.pointer (some ⟨g, 0, none⟩), .string t] W fun e' w' => e' = .returned (.int .i64 9) ∧ ∃ m, w' = W.drewN m := by
  have hp1 : (p == 0) = false := beq_eq_false_iff_ne.mpr hp
  have hc0 := (blk_cell hb 0).trans rfl
  have hf0 := blk_frozen hb 0
  have hc1 := (blk_cell hb 1).trans rfl
  have hf1 := blk_frozen hb 1
  have hc2 := (blk_cell hb 2).trans rfl
  have hf2 := blk_frozen hb 2
  have hc3 := (blk_cell hb 3).trans rfl
  have hf3 := blk_frozen hb 3
  have hc4 := (blk_cell hb 4).trans rfl
  have hf4 := blk_frozen hb 4
  clear hb hp
  by_cases h60 : l.length = 60
  · have q1 : ((l.length : Int) == 60) = true := by rw [h60]; rfl
    clear h h60
    go_enter Try.func133, Try.ntmps133
    go_wp2
    go_quiet (fail)
    go_wp2
    go_ret
    exact ⟨rfl, _, rfl⟩
  · have q1 : ((l.length : Int) == 60) = false := beq_eq_false_iff_ne.mpr (by omega)
    have h2 := h.resolve_left h60
    have q2 : (IntKind.i64.wrap (b + (l.length : Int)) == 1000000) = true := by rw [i64_w, h2]; rfl
    have q3 : (wrap64 (b + (l.length : Int)) == 1000000) = true := by rw [h2]; rfl
    clear h h60 h2
    go_enter Try.func133, Try.ntmps133
    go_wp2
    go_quiet (fail)
    go_wp2
    go_ret
    exact ⟨rfl, _, rfl⟩
set_option maxHeartbeats 1600000 in
theorem impl_PipePut.putok {W w0 : World} {g : Nat} {e p b n : Int} {A : Option Addr} {c : Nat} {l : List ByteArray} (t : ByteArray) (hb : W.heap[g]? = some (.cells #[.int .i64 e, .int .i64 p, .int .i64 b, .int .i64 n, .slice A l.length c] 24 (0, 0))) (hp : p ≠ 0) (h60 : l.length ≠ 60) (h2 : wrap64 (b + (l.length : Int)) ≠ 1000000) (hl : l.length < 8796093022208)
    (HO_ : Kd.R Kd.string 9 W w0.heap.size (fun _ => True) (.slice A l.length c) l) (HB_ : Below w0.heap.size w0 W) (hg : w0.heap.size ≤ g) : Calls Try.prog 133 #[.pointer (some ⟨g, 0, none⟩), .string t] W fun e' w' => e' = .returned (.int .i64 0) ∧ ∃ v : Value,
      w'.heap[g]? = some (.cells #[.int .i64 e, .int .i64 p, .int .i64 b, .int .i64 n, v] 24 (0, 0)) ∧ Kd.R Kd.string 9 w' w0.heap.size (fun _ => True) v (l ++ [t]) ∧ Below w0.heap.size w0 w' ∧ ∀ (k : Nat) (cs : Array Value) (ty : TypeId), W.heap[k]? = some (.cells cs ty (0, 0)) → k ≠ g → ty ≠ 9 → w'.heap[k]? = some (.cells cs ty (0, 0)) := by
  have hp1 : (p == 0) = false := beq_eq_false_iff_ne.mpr hp
  have q1 : ((l.length : Int) == 60) = false := beq_eq_false_iff_ne.mpr (by omega)
  have q2 : (IntKind.i64.wrap (b + (l.length : Int)) == 1000000) = false := by rw [i64_w]; exact beq_eq_false_iff_ne.mpr h2
  have q3 : (wrap64 (b + (l.length : Int)) == 1000000) = false := beq_eq_false_iff_ne.mpr h2
  have BK := Aside0.mk hb
  have HO := Aside0.mk HO_
  have HB := Aside0.mk HB_
  have HG := Aside0.mk hg
  have LM := Aside0.mk hl
  clear HO_ HB_ hg hl
  have hc0 := (blk_cell hb 0).trans rfl
  have hf0 := blk_frozen hb 0
  have hc1 := (blk_cell hb 1).trans rfl
  have hf1 := blk_frozen hb 1
  have hc2 := (blk_cell hb 2).trans rfl
  have hf2 := blk_frozen hb 2
  have hc3 := (blk_cell hb 3).trans rfl
  have hf3 := blk_frozen hb 3
  have hc4 := (blk_cell hb 4).trans rfl
  have hf4 := blk_frozen hb 4
  clear hb hp h60 h2
  go_enter Try.func133, Try.ntmps133
  go_wp2
  go_quiet (fail)
  go_upto_region 5 with (fail)
  refine impl_PipePut.gen (fun V => Below W.heap.size W V) (pw_below_drewN (Below.refl _ _) _) ?_
  clear hc0 hf0 hc1 hf1 hc2 hf2 hc3 hf3 hc4 hf4
  intro V hV
  have BKV := Aside0.mk (blk_below BK.out hV)
  have HOV := Aside0.mk (Kd.R_below HO.out hV)
  have HBV := Aside0.mk (below_step HB.out hV)
  have HV := Aside0.mk hV
  have hc4 := (blk_cell BKV.out 4).trans rfl
  clear hV HO HB q1 q2 q3
  go_wp2_with (first | ((with_reducible refine gate_builtin (b := .append) (xs := #[.tmp 35, .tmp 37]) rfl ?_); at_builtin; refine Kd.R_append Kd.string (w0 := w0) w0.heap.size rfl (.tmp 35) (.tmp 37) 22 9 (.string ⟨#[]⟩) 16 rfl Try.underlying22 info9 rfl (by decide) (by omega) (.slice A l.length c) l t [.string t] (fun _ => True) (fun _ => False) rfl (by first | (go_simp; done) | (go_simp; rfl)) ?aP (fun _ hk => hk.elim) ?aF ?aO ?aB ?aS ?aL ?_; (case aP => exact rfl); (case aB => exact HBV.out); (case aF => exact (fun _ _ => trivial)); (case aO => exact HOV.out); (case aS => exact HBV.out.size); (case aL => have := LM.out; omega); intro v1 w1 ho hb hg hat; obtain ⟨A1, c1, rfl⟩ := Kd.R_slice ho; rw [show (l ++ [t]).length = l.length + 1 from by simp] at ho; have BK1 := Aside0.mk (blk_grown BKV.out hg (Kd.R_ne HOV.out BKV.out (by decide))); have HO1 := Aside0.mk ho; have HB1 := Aside0.mk hb; have HG1 := Aside0.mk hg; have hc4' := (blk_cell BK1.out 4).trans rfl; have hf4' := blk_frozen BK1.out 4; clear ho hb hg hat))
  go_ret
  refine ⟨rfl, _, blk_put BK1.out 4 _ rfl, Kd.R_mono (Kd.R_far (p := ⟨g, 4, none⟩) (Kd.R_types HO1.out BK1.out (by decide)) (fun _ hk => hk.2) _) (fun _ _ => trivial), below_set HB1.out HG.out, ?_⟩
  intro k cs ty hk hkg hty
  have hk1 := blk_below hk HV.out
  exact blk_far (blk_grown hk1 HG1.out (Kd.R_ne HOV.out hk1 (Ne.symm hty))) hkg _
set_option maxHeartbeats 1600000 in
set_option maxRecDepth 100000 in
theorem impl_PipePut.calls (a0_0 : Int) (a0_1 : Int) (a0_2 : Int) (a0_3 : Int) (A0_4 : Option Addr) (c0_4 : Nat) (l0_4 : List ByteArray) (a1 : ByteArray) (r1 : Int) (r2 : Int) (r3 : Int) (r4 : Int) (r5 : List ByteArray) (r6 : List ByteArray) (r7 : Bool) (r8 : Int) (w : World) (hr0_4 : Kd.C Kd.string w A0_4 l0_4.length l0_4) (hc0_4 : l0_4.length ≤ c0_4) (h : impl_PipePut.f a0_0 a0_1 a0_2 a0_3 l0_4 a1 = some (r1, r2, r3, r4, r5, r6, r7, r8)) :
    Calls Try.prog 73 #[.agg #[.int .i64 a0_0, .int .i64 a0_1, .int .i64 a0_2, .int .i64 a0_3, .slice A0_4 l0_4.length c0_4], .string a1] w fun e w' => ∃ v4_ v5_ : Value, e = .returned (.agg #[.int .i64 r1, .int .i64 r2, .int .i64 r3, .int .i64 r4, v4_, v5_, .bool r7, .int .i64 r8]) ∧ Kd.R Kd.string 9 w' w.heap.size (fun k_ => some k_ ≠ (v5_ : Value).ownBlock) v4_ r5 ∧ Kd.R Kd.string 9 w' w.heap.size (fun k_ => some k_ ≠ (v4_ : Value).ownBlock) v5_ r6 ∧ Below w.heap.size w w' := by
  have hu24 := Try.underlying24
  have hu26 := Try.underlying26
  unfold impl_PipePut.f at h
  have HR := Aside0.mk hr0_4
  have HC := Aside0.mk hc0_4
  clear hr0_4 hc0_4
  by_cases hsz : 8000 < a1.size
  · rw [if_pos hsz] at h
    simp only [Option.some.injEq, Prod.mk.injEq] at h
    obtain ⟨rfl, rfl, rfl, rfl, rfl, rfl, rfl, rfl⟩ := h
    have HL := Aside0.mk (show impl_isLong.f a1 = some true by unfold impl_isLong.f; rw [decide_eq_true (by omega)])
    clear hsz
    go_enter Try.func73, Try.ntmps73
    go_wp2_with fail
    go_at_call 89
    with_reducible refine (impl_isLong.calls a1 true _ HL.out).mono ?_
    rintro e wl ⟨rfl, hd⟩
    obtain ⟨n, hn⟩ := hd.out
    have BO := Aside0.mk (show wl.heap[w.heap.size + 1]? = some (.cells #[.int .i64 0, .int .i64 0, .int .i64 0, .int .i64 0, .slice none 0 0, .slice none 0 0, .bool false, .int .i64 0] 26 (0, 0)) from hn ▸ blk_drewN (impl_PipePut.out_ w _) n)
    have BL := Aside0.mk (show Below w.heap.size w wl from hn ▸ pw_below_drewN (below_alloc (below_alloc (Below.refl _ _) _) _) n)
    obtain ⟨o0, o1, o2, o3, o4, o5, o6, o7, f0, f1, f2, f3, f4, f5, f6, f7⟩ := impl_PipePut.facts BO.out
    clear hd hn
    go_wp2_with fail
    refine bodyPost_ret (results_cell_row rfl _ _ (w.heap.size + 1) 26 _ (0, 0) _ rfl (impl_PipePut.fin BO.out _ _ _ _ _ _ _ _) Try.underlying26 rfl (by kernel_rfl)) rfl ⟨_, _, rfl, Kd.R_nil _ _ _ _ _, Kd.R_nil _ _ _ _ _, impl_PipePut.set8 (Nat.le_succ _) BL.out _ _ _ _ _ _ _ _⟩
  · rw [if_neg hsz] at h
    have HL := Aside0.mk (show impl_isLong.f a1 = some false by unfold impl_isLong.f; rw [decide_eq_false (by omega)])
    clear hsz
    replace h := Option.bind_eq_some_iff.mp h
    obtain ⟨ok, qok, h⟩ := h
    have QOK := Aside0.mk qok
    have H := Aside0.mk h
    clear qok h
    go_enter Try.func73, Try.ntmps73
    go_wp2_with fail
    go_at_call 89
    with_reducible refine (impl_isLong.calls a1 false _ HL.out).mono ?_
    rintro e wl ⟨rfl, hd⟩
    obtain ⟨n, hn⟩ := hd.out
    have BP := Aside0.mk (show wl.heap[w.heap.size]? = some (.cells #[.int .i64 a0_0, .int .i64 a0_1, .int .i64 a0_2, .int .i64 a0_3, .slice A0_4 l0_4.length c0_4] 24 (0, 0)) from hn ▸ blk_drewN (blk_alloc (blk_new w _) _) n)
    have BO := Aside0.mk (show wl.heap[w.heap.size + 1]? = some (.cells #[.int .i64 0, .int .i64 0, .int .i64 0, .int .i64 0, .slice none 0 0, .slice none 0 0, .bool false, .int .i64 0] 26 (0, 0)) from hn ▸ blk_drewN (impl_PipePut.out_ w _) n)
    have BL := Aside0.mk (show Below w.heap.size w wl from hn ▸ pw_below_drewN (below_alloc (below_alloc (Below.refl _ _) _) _) n)
    have p0 := (blk_cell BP.out 0).trans rfl
    have p1 := (blk_cell BP.out 1).trans rfl
    have p2 := (blk_cell BP.out 2).trans rfl
    have p3 := (blk_cell BP.out 3).trans rfl
    have p4 := (blk_cell BP.out 4).trans rfl
    clear hd hn
    go_wp2_with fail
    go_at_call 119
    with_reducible refine (impl_PipeRight.calls a0_0 a0_1 a0_2 a0_3 A0_4 c0_4 l0_4 ok _ (Kd.C_below HR.out BL.out) HC.out QOK.out).mono ?_
    rintro e w2 ⟨rfl, hb⟩
    have BP2 := Aside0.mk (blk_below BP.out hb)
    have BO2 := Aside0.mk (blk_below BO.out hb)
    have BL2 := Aside0.mk (below_step BL.out hb)
    clear BP BO BL hb p0 p1 p2 p3 p4
    have p0 := (blk_cell BP2.out 0).trans rfl
    have p1 := (blk_cell BP2.out 1).trans rfl
    have p2 := (blk_cell BP2.out 2).trans rfl
    have p3 := (blk_cell BP2.out 3).trans rfl
    have p4 := (blk_cell BP2.out 4).trans rfl
    obtain ⟨o0, o1, o2, o3, o4, o5, o6, o7, f0, f1, f2, f3, f4, f5, f6, f7⟩ := impl_PipePut.facts BO2.out
    have h := H.out
    cases ok with
    | false =>
      rw [if_pos rfl] at h
      simp only [Option.some.injEq, Prod.mk.injEq] at h
      obtain ⟨rfl, rfl, rfl, rfl, rfl, rfl, rfl, rfl⟩ := h
      clear H
      go_wp2_with fail
      refine bodyPost_ret (results_cell_row rfl _ _ (w.heap.size + 1) 26 _ (0, 0) _ rfl (impl_PipePut.fin BO2.out _ _ _ _ _ _ _ _) Try.underlying26 rfl (by kernel_rfl)) rfl ⟨_, _, rfl, Kd.R_nil _ _ _ _ _, Kd.R_nil _ _ _ _ _, impl_PipePut.set8 (Nat.le_succ _) BL2.out _ _ _ _ _ _ _ _⟩
    | true =>
      rw [if_neg (by decide)] at h
      by_cases h60 : 60 < a1.size
      · rw [if_pos h60] at h
        simp only [Option.some.injEq, Prod.mk.injEq] at h
        obtain ⟨rfl, rfl, rfl, rfl, rfl, rfl, rfl, rfl⟩ := h
        have q1 : decide (60 < a1.size) = true := decide_eq_true h60
        have q2 : decide ((60 : Int) < (a1.size : Int)) = true := decide_eq_true (by omega)
        clear H h60
        go_wp2_with fail
        refine bodyPost_ret (results_cell_row rfl _ _ (w.heap.size + 1) 26 _ (0, 0) _ rfl (impl_PipePut.fin BO2.out _ _ _ _ _ _ _ _) Try.underlying26 rfl (by kernel_rfl)) rfl ⟨_, _, rfl, Kd.R_nil _ _ _ _ _, Kd.R_nil _ _ _ _ _, impl_PipePut.set8 (Nat.le_succ _) BL2.out _ _ _ _ _ _ _ _⟩
      · rw [if_neg h60] at h
        replace h := Option.bind_eq_some_iff.mp h
        obtain ⟨⟨x0, x1, x2, x3, l⟩, qc, h⟩ := h
        have QC := Aside0.mk qc
        have H1 := Aside0.mk h
        have q1 : decide (60 < a1.size) = false := decide_eq_false h60
        have q2 : decide ((60 : Int) < (a1.size : Int)) = false := decide_eq_false (by omega)
        clear qc h H h60
        go_wp2_with fail
        go_at_call 132
        with_reducible refine (impl_Pipe_copied.calls a0_0 a0_1 a0_2 a0_3 A0_4 c0_4 l0_4 x0 x1 x2 x3 l _ (Kd.C_below HR.out BL2.out) HC.out QC.out).mono ?_
        rintro e w3 ⟨v4_, rfl, ho, hb⟩
        obtain ⟨A4, c4, rfl⟩ := Kd.R_slice ho
        have hge := Aside0.mk (show w.heap.size ≤ w3.heap.size from (below_step BL2.out hb).size)
        have hlt := Aside0.mk (show w.heap.size + 1 < w3.heap.size from Nat.lt_of_lt_of_le (blk_lt BO2.out) hb.size)
        have PW := Aside0.mk (show _ ∧ _ ∧ _ ∧ _ from ⟨blk_alloc (blk_below BO2.out hb) (.cells #[.int .i64 x0, .int .i64 x1, .int .i64 x2, .int .i64 x3, .slice A4 l.length c4] 24), blk_new w3 (.cells #[.int .i64 x0, .int .i64 x1, .int .i64 x2, .int .i64 x3, .slice A4 l.length c4] 24), Kd.R_lower (Kd.R_alloc ho (.cells #[.int .i64 x0, .int .i64 x1, .int .i64 x2, .int .i64 x3, .slice A4 l.length c4] 24)) BL2.out.size, below_alloc (below_step BL2.out hb) (.cells #[.int .i64 x0, .int .i64 x1, .int .i64 x2, .int .i64 x3, .slice A4 l.length c4] 24)⟩)
        have h := H1.out
        clear BP2 BO2 BL2 hb ho H1 q1 q2 p0 p1 p2 p3 p4 o0 f0 o1 f1 o2 f2 o3 f3 o4 f4 o5 f5 o6 f6 o7 f7
        go_upto_region 6 with (fail)
        refine impl_PipePut.gen (fun W => W.heap[w.heap.size + 1]? = some (.cells #[.int .i64 0, .int .i64 0, .int .i64 0, .int .i64 0, .slice none 0 0, .slice none 0 0, .bool false, .int .i64 0] 26 (0, 0)) ∧ W.heap[w3.heap.size]? = some (.cells #[.int .i64 x0, .int .i64 x1, .int .i64 x2, .int .i64 x3, .slice A4 l.length c4] 24 (0, 0)) ∧ Kd.R Kd.string 9 W w.heap.size (fun _ => True) (.slice A4 l.length c4) l ∧ Below w.heap.size w W) PW.out ?_
        rintro W ⟨bo, bx, ho, bl⟩
        have BO3 := Aside0.mk bo
        have BX3 := Aside0.mk bx
        have HO3 := Aside0.mk ho
        have BL3 := Aside0.mk bl
        clear bo bx ho bl PW
        go_wp2_with fail
        go_at_call 133
        by_cases hp : x1 = 0
        · rw [if_pos hp] at h
          simp only [Option.some.injEq, Prod.mk.injEq] at h
          obtain ⟨rfl, rfl, rfl, rfl, rfl, rfl, rfl, rfl⟩ := h
          refine (impl_PipePut.put0 a1 BX3.out hp).mono ?_
          rintro e w4 ⟨rfl, hw⟩
          subst hw
          obtain ⟨o0, o1, o2, o3, o4, o5, o6, o7, f0, f1, f2, f3, f4, f5, f6, f7⟩ := impl_PipePut.facts BO3.out
          go_wp2_with fail
          refine bodyPost_ret (results_cell_row rfl _ _ (w.heap.size + 1) 26 _ (0, 0) _ rfl (impl_PipePut.fin BO3.out _ _ _ _ _ _ _ _) Try.underlying26 rfl (by kernel_rfl)) rfl ⟨_, _, rfl, Kd.R_nil _ _ _ _ _, Kd.R_nil _ _ _ _ _, impl_PipePut.set8 (Nat.le_succ _) BL3.out _ _ _ _ _ _ _ _⟩
        · rw [if_neg hp] at h
          by_cases h60 : l.length = 60
          · rw [if_pos h60] at h
            simp only [Option.some.injEq, Prod.mk.injEq] at h
            obtain ⟨rfl, rfl, rfl, rfl, rfl, rfl, rfl, rfl⟩ := h
            refine (impl_PipePut.put9 a1 BX3.out hp (.inl h60)).mono ?_
            rintro e w4 ⟨rfl, m, hw⟩
            have BO4 := Aside0.mk (show w4.heap[w.heap.size + 1]? = some (.cells #[.int .i64 0, .int .i64 0, .int .i64 0, .int .i64 0, .slice none 0 0, .slice none 0 0, .bool false, .int .i64 0] 26 (0, 0)) from hw ▸ blk_drewN BO3.out m)
            have BL4 := Aside0.mk (show Below w.heap.size w w4 from hw ▸ pw_below_drewN BL3.out m)
            clear hw h60 hp
            obtain ⟨o0, o1, o2, o3, o4, o5, o6, o7, f0, f1, f2, f3, f4, f5, f6, f7⟩ := impl_PipePut.facts BO4.out
            go_wp2_with fail
            refine bodyPost_ret (results_cell_row rfl _ _ (w.heap.size + 1) 26 _ (0, 0) _ rfl (impl_PipePut.fin BO4.out _ _ _ _ _ _ _ _) Try.underlying26 rfl (by kernel_rfl)) rfl ⟨_, _, rfl, Kd.R_nil _ _ _ _ _, Kd.R_nil _ _ _ _ _, impl_PipePut.set8 (Nat.le_succ _) BL4.out _ _ _ _ _ _ _ _⟩
          · rw [if_neg h60] at h
            by_cases h2 : wrap64 (x2 + (l.length : Int)) = 1000000
            · rw [if_pos h2] at h
              simp only [Option.some.injEq, Prod.mk.injEq] at h
              obtain ⟨rfl, rfl, rfl, rfl, rfl, rfl, rfl, rfl⟩ := h
              refine (impl_PipePut.put9 a1 BX3.out hp (.inr h2)).mono ?_
              rintro e w4 ⟨rfl, m, hw⟩
              have BO4 := Aside0.mk (show w4.heap[w.heap.size + 1]? = some (.cells #[.int .i64 0, .int .i64 0, .int .i64 0, .int .i64 0, .slice none 0 0, .slice none 0 0, .bool false, .int .i64 0] 26 (0, 0)) from hw ▸ blk_drewN BO3.out m)
              have BL4 := Aside0.mk (show Below w.heap.size w w4 from hw ▸ pw_below_drewN BL3.out m)
              clear hw h60 hp h2
              obtain ⟨o0, o1, o2, o3, o4, o5, o6, o7, f0, f1, f2, f3, f4, f5, f6, f7⟩ := impl_PipePut.facts BO4.out
              go_wp2_with fail
              refine bodyPost_ret (results_cell_row rfl _ _ (w.heap.size + 1) 26 _ (0, 0) _ rfl (impl_PipePut.fin BO4.out _ _ _ _ _ _ _ _) Try.underlying26 rfl (by kernel_rfl)) rfl ⟨_, _, rfl, Kd.R_nil _ _ _ _ _, Kd.R_nil _ _ _ _ _, impl_PipePut.set8 (Nat.le_succ _) BL4.out _ _ _ _ _ _ _ _⟩
            · rw [if_neg h2] at h
              by_cases hl : l.length < 8796093022208
              · rw [if_pos hl] at h
                simp only [Option.some.injEq, Prod.mk.injEq] at h
                obtain ⟨rfl, rfl, rfl, rfl, rfl, rfl, rfl, rfl⟩ := h
                refine (impl_PipePut.putok a1 BX3.out hp h60 h2 hl HO3.out BL3.out hge.out).mono ?_
                rintro e w4 ⟨rfl, v, bx, ho, bl, hk⟩
                obtain ⟨A5, c5, rfl⟩ := Kd.R_slice ho
                rw [show (l ++ [a1]).length = l.length + 1 from by simp] at ho bx
                have BO4 := Aside0.mk (hk _ _ _ BO3.out (Nat.ne_of_lt hlt.out) (by decide))
                have BX4 := Aside0.mk bx
                have HO4 := Aside0.mk ho
                have BL4 := Aside0.mk bl
                clear bx ho bl hk h60 hp h2 hl BO3 BX3 HO3 BL3
                obtain ⟨o0, o1, o2, o3, o4, o5, o6, o7, f0, f1, f2, f3, f4, f5, f6, f7⟩ := impl_PipePut.facts BO4.out
                have x0_ := (blk_cell BX4.out 0).trans rfl
                have x1_ := (blk_cell BX4.out 1).trans rfl
                have x2_ := (blk_cell BX4.out 2).trans rfl
                have x3_ := (blk_cell BX4.out 3).trans rfl
                have x4_ := (blk_cell BX4.out 4).trans rfl
                go_wp2_with fail
                refine bodyPost_ret (results_cell_row rfl _ _ (w.heap.size + 1) 26 _ (0, 0) _ rfl (impl_PipePut.fin BO4.out _ _ _ _ _ _ _ _) Try.underlying26 rfl (by kernel_rfl)) rfl ⟨_, _, rfl, ?_, Kd.R_nil _ _ _ _ _, impl_PipePut.set8 (Nat.le_succ _) BL4.out _ _ _ _ _ _ _ _⟩
                refine Kd.R_mono (ok := fun k => True ∧ k ≠ w.heap.size + 1) ?_ (fun k hk => by simp [Value.ownBlock])
                have z := Kd.R_types HO4.out BO4.out (by decide)
                exact (Kd.R_far (p := ⟨w.heap.size + 1, 7, none⟩) (Kd.R_far (p := ⟨w.heap.size + 1, 6, none⟩) (Kd.R_far (p := ⟨w.heap.size + 1, 5, none⟩) (Kd.R_far (p := ⟨w.heap.size + 1, 4, none⟩) (Kd.R_far (p := ⟨w.heap.size + 1, 3, none⟩) (Kd.R_far (p := ⟨w.heap.size + 1, 2, none⟩) (Kd.R_far (p := ⟨w.heap.size + 1, 1, none⟩) (Kd.R_far (p := ⟨w.heap.size + 1, 0, none⟩) z (fun _ hk => hk.2) _) (fun _ hk => hk.2) _) (fun _ hk => hk.2) _) (fun _ hk => hk.2) _) (fun _ hk => hk.2) _) (fun _ hk => hk.2) _) (fun _ hk => hk.2) _) (fun _ hk => hk.2) _)
              · rw [if_neg hl] at h; cases h


end Go.Proofs.Ytkbhdiambabnnaa.PFnExactPipePut
