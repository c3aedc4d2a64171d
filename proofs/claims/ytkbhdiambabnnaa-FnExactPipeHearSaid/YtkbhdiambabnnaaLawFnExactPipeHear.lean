-- The row of the law laws_FnExactPipeHear, written by a program of this session (wip/ep/rowk.py). Lean checks it.
import Derived.Test.YtkbhdiambabnnaaRows
import Derived.Test.YtkbhdiambabnnaaPFnExactPipeHearx
import Derived.Test.YtkbhdiambabnnaaPureFnExactPipeHear
import Derived.WalkKit
import Derived.ProofKit
import Derived.OpenShut
import Derived.ShutString
import Derived.ChangeOld
import Derived.Below
import Derived.SizedLaws
import Derived.Carry
import Derived.WideShapes
import Derived.ChangeArms
import Derived.Deep.Slices
import Derived.Test.YtkbhdiambabnnaaWSized
namespace Go.Proofs.Ytkbhdiambabnnaa.fnExactPipeHear
open Go.ChangeShapes Go.WideShapes Go.ChangeAt Go.RowKit Go.Deep Go.Proofs.YtkbhdiambabnnaaW.PrintWords Go.Proofs.YtkbhdiambabnnaaW.PrintLast Go.Proofs.Ytkbhdiambabnnaa.PFnExactPipeHear
open Go.ChangeMaps (open_string shut_string)
set_option linter.unusedVariables false
set_option linter.unusedSimpArgs false
theorem own : ownKnob Try.prog.godebug = none := by kernel_rfl
theorem laidOut : laidOutB Try.prog = true := by kernel_rfl
section
variable {H : Type} {enc : TypeId × Value → H} {W : World}
theorem leaf_ {P : Program} {t : TypeId} {fs : Array Field} {fuel : Nat} {cs : List Value} {x : DataW H × List MemPlace} (ht : P.underlying t = some (.struct fs)) (h : DataW.trod enc P W 0 (fun _ => true) true fuel t cs = some x) (j : Nat) (f : Field) (hf : fs[j]? = some f) :
    ∃ n y, DataW.trod enc P W 0 (fun _ => true) true n f.type ((cs.drop f.offset).take (P.cellsOf f.type)) = some y := by
  obtain ⟨xs, n, _, _, _, hl, hg⟩ := DataW.trod_struct ht h
  have hj : j < xs.length := by rw [hl]; exact (Array.getElem?_eq_some_iff.1 hf).1
  exact ⟨n, xs[j], (hg j f hf).trans (List.getElem?_eq_getElem hj)⟩
theorem row_ {α : Type} {P : Program} (d : Kd α) (G : α → Prop) {t e : TypeId} (ht : P.underlying t = some (.slice e)) (hsz : P.cellsOf e = d.sz)
    (ho : ∀ fuel cs x, DataW.trod enc P W 0 (fun _ => true) true fuel e cs = some x → ∃ a : α, d.K W a cs ∧ G a)
    {fuel : Nat} {cs : List Value} {x : DataW H × List MemPlace} (h : DataW.trod enc P W 0 (fun _ => true) true fuel t cs = some x) :
    ∃ (A : Option Addr) (c : Nat) (l : List α), cs = [.slice A l.length c] ∧ l.length ≤ c ∧ Kd.C d W A l.length l ∧ l.length ≤ 9223372036854775807 ∧ ∀ a, a ∈ l → G a := by
  rcases open_slice ht h with ⟨rfl, _⟩ | ⟨a, len, cap, m, n, D, Pl, rfl, _, hl, hm, hmm, _, hi⟩
  · exact ⟨none, 0, [], rfl, Nat.le_refl _, Kd.C_nil d W, by simp, fun a ha => by simp at ha⟩
  · have hcl : cap ≤ 9223372036854775807 := by simpa [maxLen] using hm
    have hm2 : m = cap := by simpa using hmm
    have hex : ∀ i : Fin len, ∃ b : α, ∃ c : List Value, c.length = d.sz ∧ d.K W b c ∧ G b ∧ ∀ j u, c[j]? = some u → W.cell? (a.add (i.1 * d.sz + j)) = some u := by
      intro i
      obtain ⟨cs', hc, htr⟩ := hi i.1 (by have := i.2; omega)
      obtain ⟨_, hlen, hat⟩ := World.cells?_some hc
      obtain ⟨b, hK, hG⟩ := ho _ _ _ htr
      refine ⟨b, cs', by rw [hlen, hsz], hK, hG, fun j u hj => ?_⟩
      have hjl : j < cs'.length := by
        rcases Nat.lt_or_ge j cs'.length with h' | h'
        · exact h'
        · rw [List.getElem?_eq_none h'] at hj; cases hj
      have := hat j (by omega)
      rw [hj, Go.Deep.add_add, hsz] at this
      exact this
    refine ⟨some a, cap, List.ofFn (fun i => Classical.choose (hex i)), by simp, by simp; exact hl, ?_, by simp; omega, ?_⟩
    · refine ⟨rfl, by simp; omega, fun _ => ⟨a, rfl, fun j p hp => ?_⟩⟩
      rw [List.getElem?_ofFn] at hp
      split at hp
      · rename_i hj
        have hp' := Option.some.inj hp
        subst hp'
        obtain ⟨c, h1, h2, _, h3⟩ := Classical.choose_spec (hex ⟨j, hj⟩)
        exact ⟨c, h1, h2, h3⟩
      · cases hp
    · intro b hb
      rw [List.mem_ofFn] at hb
      obtain ⟨i, rfl⟩ := hb
      obtain ⟨c, _, _, h3, _⟩ := Classical.choose_spec (hex i)
      exact h3
theorem op_2 : ∀ (fuel : Nat) (cs : List Value) (x : DataW H × List MemPlace), DataW.trod enc Try.prog W 0 (fun _ => true) true fuel 2 cs = some x → ∃ a : Int, ((Kd.int .i64)).K W a cs ∧ ((Lit.int .i64 a).wf = true) := by
  intro fuel cs x h
  obtain ⟨a, rfl, _, hw⟩ := DataW.trod_int Try.underlying2 h
  exact ⟨a, rfl, hw⟩
theorem op_9 : ∀ (fuel : Nat) (cs : List Value) (x : DataW H × List MemPlace), DataW.trod enc Try.prog W 0 (fun _ => true) true fuel 9 cs = some x → ∃ a : ByteArray, (Kd.string).K W a cs ∧ (a.size ≤ 9223372036854775807) := by
  intro fuel cs x h
  obtain ⟨a, rfl, _, hw⟩ := DataW.trod_string Try.underlying9 h
  exact ⟨a, rfl, by simpa [maxLen] using hw⟩
theorem op_22 : ∀ (fuel : Nat) (cs : List Value) (x : DataW H × List MemPlace), DataW.trod enc Try.prog W 0 (fun _ => true) true fuel 22 cs = some x → ∃ a : List ByteArray, ((Kd.slice 9 Kd.string)).K W a cs ∧ (a.length ≤ 9223372036854775807 ∧ (∀ z_, z_ ∈ a → z_.size ≤ 9223372036854775807)) := by
  intro fuel cs x h
  obtain ⟨A_, c_, l_, rfl, h1, h2, h3, h4⟩ := row_ Kd.string (fun a => a.size ≤ 9223372036854775807) Try.underlying22 (by kernel_rfl) op_9 h
  exact ⟨l_, ⟨A_, c_, rfl, h1, h2⟩, h3, h4⟩
set_option maxRecDepth 100000 in
theorem lv_84 : ∀ (fuel : Nat) (cs : List Value) (x : DataW H × List MemPlace), DataW.trod enc Try.prog W 0 (fun _ => true) true fuel 84 cs = some x → ∃ (a0 : Int) (a1 : Int) (a2 : Int) (a3 : Int) (A4 : Option Addr) (c4 : Nat) (l4 : List ByteArray), cs = [.int .i64 a0, .int .i64 a1, .int .i64 a2, .int .i64 a3, .slice A4 l4.length c4] ∧ ((Lit.int .i64 a0).wf = true) ∧ ((Lit.int .i64 a1).wf = true) ∧ ((Lit.int .i64 a2).wf = true) ∧ ((Lit.int .i64 a3).wf = true) ∧ (l4.length ≤ c4) ∧ (Kd.C Kd.string W A4 l4.length l4) ∧ (l4.length ≤ 9223372036854775807 ∧ (∀ z_, z_ ∈ l4 → z_.size ≤ 9223372036854775807)) := by
  intro fuel cs x h
  have hl : cs.length = 5 := by obtain ⟨_, _, _, _, hl, _⟩ := DataW.trod_struct Try.underlying84 h; rw [hl]; kernel_rfl
  match cs, hl with
  | [c0_, c1_, c2_, c3_, c4_], _ =>
    obtain ⟨n0, y0, e0⟩ := leaf_ Try.underlying84 h 0 _ rfl
    have k0 : Try.prog.cellsOf 2 = 1 := by kernel_rfl
    have g0 : DataW.trod enc Try.prog W 0 (fun _ => true) true n0 2 [c0_] = some y0 := by first | (simpa [k0] using e0) | (dsimp only at e0; rw [k0] at e0; exact e0)
    obtain ⟨a0, q0, _, hg0⟩ := DataW.trod_int Try.underlying2 g0
    simp only [List.cons.injEq, and_true] at q0
    subst q0
    obtain ⟨n1, y1, e1⟩ := leaf_ Try.underlying84 h 1 _ rfl
    have k1 : Try.prog.cellsOf 2 = 1 := by kernel_rfl
    have g1 : DataW.trod enc Try.prog W 0 (fun _ => true) true n1 2 [c1_] = some y1 := by first | (simpa [k1] using e1) | (dsimp only at e1; rw [k1] at e1; exact e1)
    obtain ⟨a1, q1, _, hg1⟩ := DataW.trod_int Try.underlying2 g1
    simp only [List.cons.injEq, and_true] at q1
    subst q1
    obtain ⟨n2, y2, e2⟩ := leaf_ Try.underlying84 h 2 _ rfl
    have k2 : Try.prog.cellsOf 2 = 1 := by kernel_rfl
    have g2 : DataW.trod enc Try.prog W 0 (fun _ => true) true n2 2 [c2_] = some y2 := by first | (simpa [k2] using e2) | (dsimp only at e2; rw [k2] at e2; exact e2)
    obtain ⟨a2, q2, _, hg2⟩ := DataW.trod_int Try.underlying2 g2
    simp only [List.cons.injEq, and_true] at q2
    subst q2
    obtain ⟨n3, y3, e3⟩ := leaf_ Try.underlying84 h 3 _ rfl
    have k3 : Try.prog.cellsOf 2 = 1 := by kernel_rfl
    have g3 : DataW.trod enc Try.prog W 0 (fun _ => true) true n3 2 [c3_] = some y3 := by first | (simpa [k3] using e3) | (dsimp only at e3; rw [k3] at e3; exact e3)
    obtain ⟨a3, q3, _, hg3⟩ := DataW.trod_int Try.underlying2 g3
    simp only [List.cons.injEq, and_true] at q3
    subst q3
    obtain ⟨n4, y4, e4⟩ := leaf_ Try.underlying84 h 4 _ rfl
    have k4 : Try.prog.cellsOf 22 = 1 := by kernel_rfl
    have g4 : DataW.trod enc Try.prog W 0 (fun _ => true) true n4 22 [c4_] = some y4 := by first | (simpa [k4] using e4) | (dsimp only at e4; rw [k4] at e4; exact e4)
    obtain ⟨A4, cc4, l4, q4, hc4, h4, hx4, hy4⟩ := row_ Kd.string (fun a => a.size ≤ 9223372036854775807) Try.underlying22 (by kernel_rfl) op_9 g4
    simp only [List.cons.injEq, and_true] at q4
    subst q4
    exact ⟨a0, a1, a2, a3, A4, cc4, l4, rfl, hg0, hg1, hg2, hg3, hc4, h4, ⟨hx4, hy4⟩⟩
set_option maxRecDepth 100000 in
theorem lv_32 : ∀ (fuel : Nat) (cs : List Value) (x : DataW H × List MemPlace), DataW.trod enc Try.prog W 0 (fun _ => true) true fuel 32 cs = some x → ∃ (a0 : Int) (a1 : Int) (a2 : Int) (a3 : Int) (a4 : ByteArray), cs = [.int .i64 a0, .int .i64 a1, .int .i64 a2, .int .i64 a3, .string a4] ∧ ((Lit.int .i64 a0).wf = true) ∧ ((Lit.int .i64 a1).wf = true) ∧ ((Lit.int .i64 a2).wf = true) ∧ ((Lit.int .i64 a3).wf = true) ∧ (a4.size ≤ 9223372036854775807) := by
  intro fuel cs x h
  have hl : cs.length = 5 := by obtain ⟨_, _, _, _, hl, _⟩ := DataW.trod_struct Try.underlying32 h; rw [hl]; kernel_rfl
  match cs, hl with
  | [c0_, c1_, c2_, c3_, c4_], _ =>
    obtain ⟨n0, y0, e0⟩ := leaf_ Try.underlying32 h 0 _ rfl
    have k0 : Try.prog.cellsOf 2 = 1 := by kernel_rfl
    have g0 : DataW.trod enc Try.prog W 0 (fun _ => true) true n0 2 [c0_] = some y0 := by first | (simpa [k0] using e0) | (dsimp only at e0; rw [k0] at e0; exact e0)
    obtain ⟨a0, q0, _, hg0⟩ := DataW.trod_int Try.underlying2 g0
    simp only [List.cons.injEq, and_true] at q0
    subst q0
    obtain ⟨n1, y1, e1⟩ := leaf_ Try.underlying32 h 1 _ rfl
    have k1 : Try.prog.cellsOf 2 = 1 := by kernel_rfl
    have g1 : DataW.trod enc Try.prog W 0 (fun _ => true) true n1 2 [c1_] = some y1 := by first | (simpa [k1] using e1) | (dsimp only at e1; rw [k1] at e1; exact e1)
    obtain ⟨a1, q1, _, hg1⟩ := DataW.trod_int Try.underlying2 g1
    simp only [List.cons.injEq, and_true] at q1
    subst q1
    obtain ⟨n2, y2, e2⟩ := leaf_ Try.underlying32 h 2 _ rfl
    have k2 : Try.prog.cellsOf 2 = 1 := by kernel_rfl
    have g2 : DataW.trod enc Try.prog W 0 (fun _ => true) true n2 2 [c2_] = some y2 := by first | (simpa [k2] using e2) | (dsimp only at e2; rw [k2] at e2; exact e2)
    obtain ⟨a2, q2, _, hg2⟩ := DataW.trod_int Try.underlying2 g2
    simp only [List.cons.injEq, and_true] at q2
    subst q2
    obtain ⟨n3, y3, e3⟩ := leaf_ Try.underlying32 h 3 _ rfl
    have k3 : Try.prog.cellsOf 2 = 1 := by kernel_rfl
    have g3 : DataW.trod enc Try.prog W 0 (fun _ => true) true n3 2 [c3_] = some y3 := by first | (simpa [k3] using e3) | (dsimp only at e3; rw [k3] at e3; exact e3)
    obtain ⟨a3, q3, _, hg3⟩ := DataW.trod_int Try.underlying2 g3
    simp only [List.cons.injEq, and_true] at q3
    subst q3
    obtain ⟨n4, y4, e4⟩ := leaf_ Try.underlying32 h 4 _ rfl
    have k4 : Try.prog.cellsOf 9 = 1 := by kernel_rfl
    have g4 : DataW.trod enc Try.prog W 0 (fun _ => true) true n4 9 [c4_] = some y4 := by first | (simpa [k4] using e4) | (dsimp only at e4; rw [k4] at e4; exact e4)
    obtain ⟨a4, q4, _, hw4⟩ := DataW.trod_string Try.underlying9 g4
    simp only [List.cons.injEq, and_true] at q4
    subst q4
    have hg4 : a4.size ≤ 9223372036854775807 := by simpa [maxLen] using hw4
    exact ⟨a0, a1, a2, a3, a4, rfl, hg0, hg1, hg2, hg3, hg4⟩
end
set_option maxRecDepth 100000 in
theorem lifted (os : Os) (started : os.Started) (H : Type) (enc : TypeId × Value → H) :
    ReturnsInHanded {} Try.checked os 14 .any (Rows.fnExactPipeHearSpec.pre6 enc Try.prog Try.f14 Rows.fnExactPipeHearRow.domain false) (Rows.fnExactPipeHearSpec.post enc Try.prog Try.f14 false true false false) := by
  refine returnsInHanded_of_change_sized (C := Try.checked) own started (by kernel_rfl) Try.func14
    (ChangeSpec.witness6 (enc := enc) (C := Try.checked) false ⟨#[], #[.agg #[.int .i64 0, .int .i64 0, .int .i64 0, .int .i64 0, .slice none 0 0], .agg #[.int .i64 0, .int .i64 0, .int .i64 0, .int .i64 0, .string ByteArray.empty]], []⟩ 8 (by kernel_rfl) (by kernel_rfl) (by kernel_rfl) (by kernel_rfl)) ?_
  intro W base args ds gs before hval0 hW hcnd hsz0 _
  have hsz : (DataW.weightsEach Try.prog (Try.f14.params.toList ++ Rows.fnExactPipeHearSpec.plain.varTypes Try.prog) (ds ++ gs)).all (· ≤ reachBytes) = true := hsz0
  have hval : ∀ (j : Nat) t v, Try.f14.params[j]? = some t → args[j]? = some v → Value.okWide Try.prog W .any base t v := hval0
  have hW' := hW
  obtain ⟨p, q, hA0, hV, rfl, hfz, hnd⟩ := hW
  have hA : DataW.TrodAll enc Try.prog W 0 (fun _ => true) true Try.f14.params.toList args.toList ds p := hA0
  rw [Try.params14] at hA hval hsz
  obtain ⟨v0, vs0, d0, ds0, p0, q0, hargs, rfl, rfl, h0, r0⟩ := trodAll_cons hA
  obtain ⟨v1, vs1, d1, ds1, p1, q1, rfl, rfl, rfl, h1, r1⟩ := trodAll_cons r0
  obtain ⟨rfl, rfl, rfl⟩ := trodAll_nil r1
  obtain rfl : args = #[v0, v1] := by cases args; simp_all
  obtain ⟨rfl, rfl⟩ := trodVars_none hV
  have kk0 := h0
  have lt0 : ∀ x ∈ p0, x.block < W.heap.size := by obtain ⟨m, hm⟩ := kk0; exact DataW.trod_lt m _ _ _ hm
  obtain ⟨cs0, rfl, _⟩ := okWide_struct Try.underlying84 (hval 0 84 v0 rfl rfl)
  obtain ⟨fu0, hf0⟩ := h0
  obtain ⟨a0_0, a0_1, a0_2, a0_3, A0_4, c0_4, l0_4, eq0, hg0_0, hg0_1, hg0_2, hg0_3, hc0_4, hr0_4, hg0_4⟩ := lv_84 fu0 cs0.toList _ hf0
  obtain ⟨csl0⟩ := cs0
  simp only at eq0
  subst eq0
  have kk1 := h1
  have lt1 : ∀ x ∈ p1, x.block < W.heap.size := by obtain ⟨m, hm⟩ := kk1; exact DataW.trod_lt m _ _ _ hm
  obtain ⟨cs1, rfl, _⟩ := okWide_struct Try.underlying32 (hval 1 32 v1 rfl rfl)
  obtain ⟨fu1, hf1⟩ := h1
  obtain ⟨a1_0, a1_1, a1_2, a1_3, a1_4, eq1, hg1_0, hg1_1, hg1_2, hg1_3, hg1_4⟩ := lv_32 fu1 cs1.toList _ hf1
  obtain ⟨csl1⟩ := cs1
  simp only at eq1
  subst eq1
  clear hA0 hval0 hsz0 hsz
  obtain ⟨k, hP⟩ := Pure.FnExactPipeHear a0_0 a0_1 a0_2 a0_3 l0_4 a1_0 a1_1 a1_2 a1_3 a1_4 hg0_0 hg0_1 hg0_2 hg0_3 hg0_4 hg1_0 hg1_1 hg1_2 hg1_3 hg1_4
  refine (laws_FnExactPipeHear.calls k a0_0 a0_1 a0_2 a0_3 _ _ l0_4 a1_0 a1_1 a1_2 a1_3 a1_4 true W hr0_4 hc0_4 ⟨rfl⟩ hP).mono fun e W' ⟨he, bel0⟩ => ?_
  have bel : Below W.heap.size W W' := bel0
  subst he
  exact ⟨_, rfl, _, _, _, [], _, [], hW', trodAll_mk1 (shut_bool Try.underlying4 _), (trodAll_cons_mk (Below.trod laidOut (by kernel_rfl) (of_decide_eq_true (by kernel_rfl)) kk0 bel lt0) (trodAll_cons_mk (Below.trod laidOut (by kernel_rfl) (of_decide_eq_true (by kernel_rfl)) kk1 bel lt1) trodAll_mk0)), rfl, bel.frame _, fun h => by cases h⟩
theorem over : Rows.fnExactPipeHearRow.holds Try.pinned (OpenSpec.ofChange Rows.fnExactPipeHearSpec) :=
  OpenClaim.holds_of_wide 14 Try.f14 rfl rfl rfl rfl rfl rfl rfl ⟨rfl, rfl, rfl, rfl, rfl⟩ rfl rfl rfl rfl rfl (by kernel_rfl) Try.func14 (by kernel_rfl)
    (of_decide_eq_true (by kernel_rfl)) (by unfold Func.isWrapper; first | (rw [if_pos (by decide +kernel)]; kernel_rfl) | (rw [if_neg (by decide +kernel)]; exact ⟨rfl, rfl⟩))
    (fun os started H enc _ => lifted os started H enc)
theorem proved : Rows.FnExactPipeHearSaid := over
#print axioms proved
end Go.Proofs.Ytkbhdiambabnnaa.fnExactPipeHear
namespace Go.Proofs.Ytkbhdiambabnnaa
/-- The row, under a short name, for the claim. -/
theorem fnExactPipeHear_holds : Rows.FnExactPipeHearSaid := fnExactPipeHear.proved
end Go.Proofs.Ytkbhdiambabnnaa
