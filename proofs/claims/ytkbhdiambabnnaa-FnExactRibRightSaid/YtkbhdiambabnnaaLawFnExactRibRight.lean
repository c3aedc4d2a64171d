-- The row of the law laws_FnExactRibRight, written by a program of this session (wip/ep/rowk.py). Lean checks it.
import Derived.Test.YtkbhdiambabnnaaRows
import Derived.Test.YtkbhdiambabnnaaPFnExactRibRightx
import Derived.Test.YtkbhdiambabnnaaPureFnExactRibRight
import Derived.WalkKit
import Derived.ProofKit
import Derived.OpenShut
import Derived.ShutString
import Derived.ChangeOld
import Derived.Below
import Derived.SizedLaws
import Derived.Carry
import Derived.WideShapes
import Derived.ChangeArms
import Derived.Deep.Slices
import Derived.Test.YtkbhdiambabnnaaWSized
namespace Go.Proofs.Ytkbhdiambabnnaa.fnExactRibRight
open Go.ChangeShapes Go.WideShapes Go.ChangeAt Go.RowKit Go.Deep Go.Proofs.YtkbhdiambabnnaaW.PrintWords Go.Proofs.YtkbhdiambabnnaaW.PrintLast Go.Proofs.Ytkbhdiambabnnaa.PFnExactRibRight
open Go.ChangeMaps (open_string shut_string)
set_option linter.unusedVariables false
set_option linter.unusedSimpArgs false
theorem own : ownKnob Try.prog.godebug = none := by kernel_rfl
theorem laidOut : laidOutB Try.prog = true := by kernel_rfl
section
variable {H : Type} {enc : TypeId × Value → H} {W : World}
theorem leaf_ {P : Program} {t : TypeId} {fs : Array Field} {fuel : Nat} {cs : List Value} {x : DataW H × List MemPlace} (ht : P.underlying t = some (.struct fs)) (h : DataW.trod enc P W 0 (fun _ => true) true fuel t cs = some x) (j : Nat) (f : Field) (hf : fs[j]? = some f) :
    ∃ n y, DataW.trod enc P W 0 (fun _ => true) true n f.type ((cs.drop f.offset).take (P.cellsOf f.type)) = some y := by
  obtain ⟨xs, n, _, _, _, hl, hg⟩ := DataW.trod_struct ht h
  have hj : j < xs.length := by rw [hl]; exact (Array.getElem?_eq_some_iff.1 hf).1
  exact ⟨n, xs[j], (hg j f hf).trans (List.getElem?_eq_getElem hj)⟩
theorem row_ {α : Type} {P : Program} (d : Kd α) (G : α → Prop) {t e : TypeId} (ht : P.underlying t = some (.slice e)) (hsz : P.cellsOf e = d.sz)
    (ho : ∀ fuel cs x, DataW.trod enc P W 0 (fun _ => true) true fuel e cs = some x → ∃ a : α, d.K W a cs ∧ G a)
    {fuel : Nat} {cs : List Value} {x : DataW H × List MemPlace} (h : DataW.trod enc P W 0 (fun _ => true) true fuel t cs = some x) :
    ∃ (A : Option Addr) (c : Nat) (l : List α), cs = [.slice A l.length c] ∧ l.length ≤ c ∧ Kd.C d W A l.length l ∧ l.length ≤ 9223372036854775807 ∧ ∀ a, a ∈ l → G a := by
  rcases open_slice ht h with ⟨rfl, _⟩ | ⟨a, len, cap, m, n, D, Pl, rfl, _, hl, hm, hmm, _, hi⟩
  · exact ⟨none, 0, [], rfl, Nat.le_refl _, Kd.C_nil d W, by simp, fun a ha => by simp at ha⟩
  · have hcl : cap ≤ 9223372036854775807 := by simpa [maxLen] using hm
    have hm2 : m = cap := by simpa using hmm
    have hex : ∀ i : Fin len, ∃ b : α, ∃ c : List Value, c.length = d.sz ∧ d.K W b c ∧ G b ∧ ∀ j u, c[j]? = some u → W.cell? (a.add (i.1 * d.sz + j)) = some u := by
      intro i
      obtain ⟨cs', hc, htr⟩ := hi i.1 (by have := i.2; omega)
      obtain ⟨_, hlen, hat⟩ := World.cells?_some hc
      obtain ⟨b, hK, hG⟩ := ho _ _ _ htr
      refine ⟨b, cs', by rw [hlen, hsz], hK, hG, fun j u hj => ?_⟩
      have hjl : j < cs'.length := by
        rcases Nat.lt_or_ge j cs'.length with h' | h'
        · exact h'
        · rw [List.getElem?_eq_none h'] at hj; cases hj
      have := hat j (by omega)
      rw [hj, Go.Deep.add_add, hsz] at this
      exact this
    refine ⟨some a, cap, List.ofFn (fun i => Classical.choose (hex i)), by simp, by simp; exact hl, ?_, by simp; omega, ?_⟩
    · refine ⟨rfl, by simp; omega, fun _ => ⟨a, rfl, fun j p hp => ?_⟩⟩
      rw [List.getElem?_ofFn] at hp
      split at hp
      · rename_i hj
        have hp' := Option.some.inj hp
        subst hp'
        obtain ⟨c, h1, h2, _, h3⟩ := Classical.choose_spec (hex ⟨j, hj⟩)
        exact ⟨c, h1, h2, h3⟩
      · cases hp
    · intro b hb
      rw [List.mem_ofFn] at hb
      obtain ⟨i, rfl⟩ := hb
      obtain ⟨c, _, _, h3, _⟩ := Classical.choose_spec (hex i)
      exact h3
theorem op_2 : ∀ (fuel : Nat) (cs : List Value) (x : DataW H × List MemPlace), DataW.trod enc Try.prog W 0 (fun _ => true) true fuel 2 cs = some x → ∃ a : Int, ((Kd.int .i64)).K W a cs ∧ ((Lit.int .i64 a).wf = true) := by
  intro fuel cs x h
  obtain ⟨a, rfl, _, hw⟩ := DataW.trod_int Try.underlying2 h
  exact ⟨a, rfl, hw⟩
theorem op_4 : ∀ (fuel : Nat) (cs : List Value) (x : DataW H × List MemPlace), DataW.trod enc Try.prog W 0 (fun _ => true) true fuel 4 cs = some x → ∃ a : Bool, (Kd.bool).K W a cs ∧ (True) := by
  intro fuel cs x h
  obtain ⟨a, rfl, _⟩ := DataW.trod_bool Try.underlying4 h
  exact ⟨a, rfl, trivial⟩
set_option maxRecDepth 100000 in
theorem lv_66 : ∀ (fuel : Nat) (cs : List Value) (x : DataW H × List MemPlace), DataW.trod enc Try.prog W 0 (fun _ => true) true fuel 66 cs = some x → ∃ (a0 : Int) (a1 : Int) (a2 : Int) (a3 : Int) (a4 : Int) (a5 : Int) (a6 : Bool), cs = [.int .i64 a0, .int .i64 a1, .int .i64 a2, .int .i64 a3, .int .i64 a4, .int .i64 a5, .bool a6] ∧ ((Lit.int .i64 a0).wf = true) ∧ ((Lit.int .i64 a1).wf = true) ∧ ((Lit.int .i64 a2).wf = true) ∧ ((Lit.int .i64 a3).wf = true) ∧ ((Lit.int .i64 a4).wf = true) ∧ ((Lit.int .i64 a5).wf = true) := by
  intro fuel cs x h
  have hl : cs.length = 7 := by obtain ⟨_, _, _, _, hl, _⟩ := DataW.trod_struct Try.underlying66 h; rw [hl]; kernel_rfl
  match cs, hl with
  | [c0_, c1_, c2_, c3_, c4_, c5_, c6_], _ =>
    obtain ⟨n0, y0, e0⟩ := leaf_ Try.underlying66 h 0 _ rfl
    have k0 : Try.prog.cellsOf 2 = 1 := by kernel_rfl
    have g0 : DataW.trod enc Try.prog W 0 (fun _ => true) true n0 2 [c0_] = some y0 := by first | (simpa [k0] using e0) | (dsimp only at e0; rw [k0] at e0; exact e0)
    obtain ⟨a0, q0, _, hg0⟩ := DataW.trod_int Try.underlying2 g0
    simp only [List.cons.injEq, and_true] at q0
    subst q0
    obtain ⟨n1, y1, e1⟩ := leaf_ Try.underlying66 h 1 _ rfl
    have k1 : Try.prog.cellsOf 2 = 1 := by kernel_rfl
    have g1 : DataW.trod enc Try.prog W 0 (fun _ => true) true n1 2 [c1_] = some y1 := by first | (simpa [k1] using e1) | (dsimp only at e1; rw [k1] at e1; exact e1)
    obtain ⟨a1, q1, _, hg1⟩ := DataW.trod_int Try.underlying2 g1
    simp only [List.cons.injEq, and_true] at q1
    subst q1
    obtain ⟨n2, y2, e2⟩ := leaf_ Try.underlying66 h 2 _ rfl
    have k2 : Try.prog.cellsOf 2 = 1 := by kernel_rfl
    have g2 : DataW.trod enc Try.prog W 0 (fun _ => true) true n2 2 [c2_] = some y2 := by first | (simpa [k2] using e2) | (dsimp only at e2; rw [k2] at e2; exact e2)
    obtain ⟨a2, q2, _, hg2⟩ := DataW.trod_int Try.underlying2 g2
    simp only [List.cons.injEq, and_true] at q2
    subst q2
    obtain ⟨n3, y3, e3⟩ := leaf_ Try.underlying66 h 3 _ rfl
    have k3 : Try.prog.cellsOf 2 = 1 := by kernel_rfl
    have g3 : DataW.trod enc Try.prog W 0 (fun _ => true) true n3 2 [c3_] = some y3 := by first | (simpa [k3] using e3) | (dsimp only at e3; rw [k3] at e3; exact e3)
    obtain ⟨a3, q3, _, hg3⟩ := DataW.trod_int Try.underlying2 g3
    simp only [List.cons.injEq, and_true] at q3
    subst q3
    obtain ⟨n4, y4, e4⟩ := leaf_ Try.underlying66 h 4 _ rfl
    have k4 : Try.prog.cellsOf 2 = 1 := by kernel_rfl
    have g4 : DataW.trod enc Try.prog W 0 (fun _ => true) true n4 2 [c4_] = some y4 := by first | (simpa [k4] using e4) | (dsimp only at e4; rw [k4] at e4; exact e4)
    obtain ⟨a4, q4, _, hg4⟩ := DataW.trod_int Try.underlying2 g4
    simp only [List.cons.injEq, and_true] at q4
    subst q4
    obtain ⟨n5, y5, e5⟩ := leaf_ Try.underlying66 h 5 _ rfl
    have k5 : Try.prog.cellsOf 2 = 1 := by kernel_rfl
    have g5 : DataW.trod enc Try.prog W 0 (fun _ => true) true n5 2 [c5_] = some y5 := by first | (simpa [k5] using e5) | (dsimp only at e5; rw [k5] at e5; exact e5)
    obtain ⟨a5, q5, _, hg5⟩ := DataW.trod_int Try.underlying2 g5
    simp only [List.cons.injEq, and_true] at q5
    subst q5
    obtain ⟨n6, y6, e6⟩ := leaf_ Try.underlying66 h 6 _ rfl
    have k6 : Try.prog.cellsOf 4 = 1 := by kernel_rfl
    have g6 : DataW.trod enc Try.prog W 0 (fun _ => true) true n6 4 [c6_] = some y6 := by first | (simpa [k6] using e6) | (dsimp only at e6; rw [k6] at e6; exact e6)
    obtain ⟨a6, q6, _⟩ := DataW.trod_bool Try.underlying4 g6
    simp only [List.cons.injEq, and_true] at q6
    subst q6
    exact ⟨a0, a1, a2, a3, a4, a5, a6, rfl, hg0, hg1, hg2, hg3, hg4, hg5⟩
set_option maxRecDepth 100000 in
theorem lv_139 : ∀ (fuel : Nat) (cs : List Value) (x : DataW H × List MemPlace), DataW.trod enc Try.prog W 0 (fun _ => true) true fuel 139 cs = some x → ∃ (a0 : Int) (a1 : Bool) (a2 : Int) (a3 : Int) (a4 : Int) (a5 : Int) (a6 : Int) (a7 : Int) (a8 : Bool), cs = [.int .i64 a0, .bool a1, .int .i64 a2, .int .i64 a3, .int .i64 a4, .int .i64 a5, .int .i64 a6, .int .i64 a7, .bool a8] ∧ ((Lit.int .i64 a0).wf = true) ∧ ((Lit.int .i64 a2).wf = true) ∧ ((Lit.int .i64 a3).wf = true) ∧ ((Lit.int .i64 a4).wf = true) ∧ ((Lit.int .i64 a5).wf = true) ∧ ((Lit.int .i64 a6).wf = true) ∧ ((Lit.int .i64 a7).wf = true) := by
  intro fuel cs x h
  have hl : cs.length = 9 := by obtain ⟨_, _, _, _, hl, _⟩ := DataW.trod_struct Try.underlying139 h; rw [hl]; kernel_rfl
  match cs, hl with
  | [c0_, c1_, c2_, c3_, c4_, c5_, c6_, c7_, c8_], _ =>
    obtain ⟨n0, y0, e0⟩ := leaf_ Try.underlying139 h 0 _ rfl
    have k0 : Try.prog.cellsOf 2 = 1 := by kernel_rfl
    have g0 : DataW.trod enc Try.prog W 0 (fun _ => true) true n0 2 [c0_] = some y0 := by first | (simpa [k0] using e0) | (dsimp only at e0; rw [k0] at e0; exact e0)
    obtain ⟨a0, q0, _, hg0⟩ := DataW.trod_int Try.underlying2 g0
    simp only [List.cons.injEq, and_true] at q0
    subst q0
    obtain ⟨n1, y1, e1⟩ := leaf_ Try.underlying139 h 1 _ rfl
    have k1 : Try.prog.cellsOf 4 = 1 := by kernel_rfl
    have g1 : DataW.trod enc Try.prog W 0 (fun _ => true) true n1 4 [c1_] = some y1 := by first | (simpa [k1] using e1) | (dsimp only at e1; rw [k1] at e1; exact e1)
    obtain ⟨a1, q1, _⟩ := DataW.trod_bool Try.underlying4 g1
    simp only [List.cons.injEq, and_true] at q1
    subst q1
    obtain ⟨n2, y2, e2⟩ := leaf_ Try.underlying139 h 2 _ rfl
    have k2 : Try.prog.cellsOf 66 = 7 := by kernel_rfl
    have g2 : DataW.trod enc Try.prog W 0 (fun _ => true) true n2 66 [c2_, c3_, c4_, c5_, c6_, c7_, c8_] = some y2 := by first | (simpa [k2] using e2) | (dsimp only at e2; rw [k2] at e2; exact e2)
    obtain ⟨a2, a3, a4, a5, a6, a7, a8, q2, hg2, hg3, hg4, hg5, hg6, hg7⟩ := lv_66 _ _ _ g2
    simp only [List.cons.injEq, and_true] at q2
    obtain ⟨rfl, rfl, rfl, rfl, rfl, rfl, rfl⟩ := q2
    exact ⟨a0, a1, a2, a3, a4, a5, a6, a7, a8, rfl, hg0, hg2, hg3, hg4, hg5, hg6, hg7⟩
theorem op_139 : ∀ (fuel : Nat) (cs : List Value) (x : DataW H × List MemPlace), DataW.trod enc Try.prog W 0 (fun _ => true) true fuel 139 cs = some x → ∃ a : S139, (k139).K W a cs ∧ ((Lit.int .i64 a.f0).wf = true ∧ (Lit.int .i64 a.f2.f0).wf = true ∧ (Lit.int .i64 a.f2.f1).wf = true ∧ (Lit.int .i64 a.f2.f2).wf = true ∧ (Lit.int .i64 a.f2.f3).wf = true ∧ (Lit.int .i64 a.f2.f4).wf = true ∧ (Lit.int .i64 a.f2.f5).wf = true) := by
  intro fuel cs x h
  obtain ⟨a0, a1, a2, a3, a4, a5, a6, a7, a8, rfl, hg0, hg2, hg3, hg4, hg5, hg6, hg7⟩ := lv_139 fuel cs x h
  exact ⟨(⟨a0, a1, (⟨a2, a3, a4, a5, a6, a7, a8⟩ : S66)⟩ : S139), by first | exact k139_mk W (⟨a0, a1, (⟨a2, a3, a4, a5, a6, a7, a8⟩ : S66)⟩ : S139) | (refine k139_mk W (⟨a0, a1, (⟨a2, a3, a4, a5, a6, a7, a8⟩ : S66)⟩ : S139) ..; all_goals assumption), hg0, hg2, hg3, hg4, hg5, hg6, hg7⟩
end
set_option maxRecDepth 100000 in
theorem lifted (os : Os) (started : os.Started) (H : Type) (enc : TypeId × Value → H) :
    ReturnsInHanded {} Try.checked os 11 .any (Rows.fnExactRibRightSpec.pre6 enc Try.prog Try.f11 Rows.fnExactRibRightRow.domain false) (Rows.fnExactRibRightSpec.post enc Try.prog Try.f11 false true false false) := by
  refine returnsInHanded_of_change_sized (C := Try.checked) own started (by kernel_rfl) Try.func11
    (ChangeSpec.witness6 (enc := enc) (C := Try.checked) false ⟨#[], #[.slice none 0 0], []⟩ 8 (by kernel_rfl) (by kernel_rfl) (by kernel_rfl) (by kernel_rfl)) ?_
  intro W base args ds gs before hval0 hW hcnd hsz0 _
  have hsz : (DataW.weightsEach Try.prog (Try.f11.params.toList ++ Rows.fnExactRibRightSpec.plain.varTypes Try.prog) (ds ++ gs)).all (· ≤ reachBytes) = true := hsz0
  have hval : ∀ (j : Nat) t v, Try.f11.params[j]? = some t → args[j]? = some v → Value.okWide Try.prog W .any base t v := hval0
  have hW' := hW
  obtain ⟨p, q, hA0, hV, rfl, hfz, hnd⟩ := hW
  have hA : DataW.TrodAll enc Try.prog W 0 (fun _ => true) true Try.f11.params.toList args.toList ds p := hA0
  rw [Try.params11] at hA hval hsz
  obtain ⟨v0, vs0, d0, ds0, p0, q0, hargs, rfl, rfl, h0, r0⟩ := trodAll_cons hA
  obtain ⟨rfl, rfl, rfl⟩ := trodAll_nil r0
  obtain rfl : args = #[v0] := by cases args; simp_all
  obtain ⟨rfl, rfl⟩ := trodVars_none hV
  have kk0 := h0
  have lt0 : ∀ x ∈ p0, x.block < W.heap.size := by obtain ⟨m, hm⟩ := kk0; exact DataW.trod_lt m _ _ _ hm
  obtain ⟨ad0, le0, ca0, rfl⟩ := okWide_slice Try.underlying91 (hval 0 91 v0 rfl rfl)
  obtain ⟨fu0, hf0⟩ := h0
  obtain ⟨A0, c0, l0, eq0, hc0, hr0, hx0, hy0⟩ := row_ k139 (fun a => (Lit.int .i64 a.f0).wf = true ∧ (Lit.int .i64 a.f2.f0).wf = true ∧ (Lit.int .i64 a.f2.f1).wf = true ∧ (Lit.int .i64 a.f2.f2).wf = true ∧ (Lit.int .i64 a.f2.f3).wf = true ∧ (Lit.int .i64 a.f2.f4).wf = true ∧ (Lit.int .i64 a.f2.f5).wf = true) Try.underlying91 (by kernel_rfl) op_139 hf0
  simp only [Value.cells, List.cons.injEq, Value.slice.injEq, and_true] at eq0
  obtain ⟨rfl, rfl, rfl⟩ := eq0
  clear hA0 hval0 hsz0 hsz
  obtain ⟨k, hP⟩ := Pure.FnExactRibRight l0 ⟨hx0, hy0⟩
  refine (laws_FnExactRibRight.calls k _ _ l0 true W hr0 hc0 hP).mono fun e W' ⟨he, bel0⟩ => ?_
  have bel : Below W.heap.size W W' := bel0
  subst he
  exact ⟨_, rfl, _, _, _, [], _, [], hW', trodAll_mk1 (shut_bool Try.underlying4 _), (trodAll_cons_mk (Below.trod laidOut (by kernel_rfl) (of_decide_eq_true (by kernel_rfl)) kk0 bel lt0) trodAll_mk0), rfl, bel.frame _, fun h => by cases h⟩
theorem over : Rows.fnExactRibRightRow.holds Try.pinned (OpenSpec.ofChange Rows.fnExactRibRightSpec) :=
  OpenClaim.holds_of_wide 11 Try.f11 rfl rfl rfl rfl rfl rfl rfl ⟨rfl, rfl, rfl, rfl, rfl⟩ rfl rfl rfl rfl rfl (by kernel_rfl) Try.func11 (by kernel_rfl)
    (of_decide_eq_true (by kernel_rfl)) (by unfold Func.isWrapper; first | (rw [if_pos (by decide +kernel)]; kernel_rfl) | (rw [if_neg (by decide +kernel)]; exact ⟨rfl, rfl⟩))
    (fun os started H enc _ => lifted os started H enc)
theorem proved : Rows.FnExactRibRightSaid := over
#print axioms proved
end Go.Proofs.Ytkbhdiambabnnaa.fnExactRibRight
namespace Go.Proofs.Ytkbhdiambabnnaa
/-- The row, under a short name, for the claim. -/
theorem fnExactRibRight_holds : Rows.FnExactRibRightSaid := fnExactRibRight.proved
end Go.Proofs.Ytkbhdiambabnnaa
