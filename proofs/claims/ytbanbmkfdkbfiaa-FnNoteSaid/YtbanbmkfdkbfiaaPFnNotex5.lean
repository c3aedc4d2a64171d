import Derived.Test.YtbanbmkfdkbfiaaPFnNotex0
import Derived.Test.YtbanbmkfdkbfiaaPFnNotex4
namespace Go.Proofs.Ytbanbmkfdkbfiaa.PFnNote
open Go.RowKit Go.Proofs.YtbanbmkfdkbfiaaW.PrintWords Go.Proofs.YtbanbmkfdkbfiaaW.PrintLast Go.Proofs.YtbanbmkfdkbfiaaW.PrintMore
attribute [local go_sem] max2_int min2_int max_two min_two max_three min_three max_four min_four
set_option linter.unusedVariables false
set_option linter.unusedSimpArgs false
def spec_l01Src_l03Route.j0 : Nat → List Int → Int → Int → Int → Int → Int → Int → Int → Int → Int → Bool → Option (Int × Int × Int × Int × Int × Int × Bool × Int × Int × Int)
 | 0, _, _, _, _, _, _, _, _, _, _, _ => none
 | k + 1, x1000, x1001, x1002, x1003, x183000, x183001, x183002, x183003, x183004, x183005, x183006 => (spec_l01Src_one.f x1000 x1001 x1002 x1003 15).bind fun bt195 => (if bt195.1 = true then ((spec_l01Src_n.f x1000 bt195.2.1 bt195.2.2.1 bt195.2.2.2 6).bind fun bt199 => (if bt199.1 = 0 then ((spec_l01Src_n.f x1000 bt199.2.1 bt199.2.2.1 bt199.2.2.2 4).bind fun bt203 => (some (wrap64 (1 + bt203.1), x183001, x183002, x183003, x183004, x183005, x183006, bt203.2.1, bt203.2.2.1, bt203.2.2.2))) else (if bt199.1 = 1 then ((spec_l01Src_l02VniOf.f x1000 bt199.2.1 bt199.2.2.1 bt199.2.2.2).bind fun bt207 => (some (x183000, bt207.1, x183002, x183003, x183004, x183005, x183006, bt207.2.1, bt207.2.2.1, bt207.2.2.2))) else (if bt199.1 = 2 then ((spec_l01Src_l02MacOf.f x1000 bt199.2.1 bt199.2.2.1 bt199.2.2.2).bind fun bt211 => (some (x183000, x183001, bt211.1, x183003, x183004, x183005, x183006, bt211.2.1, bt211.2.2.1, bt211.2.2.2))) else (if bt199.1 = 3 then ((some (([0, 4, 5] : List Int) : List Int)).bind fun y215 => ((spec_l01Src_n.f x1000 bt199.2.1 bt199.2.2.1 bt199.2.2.2 3).bind fun bt218 => (if 0 ≤ bt218.1 then (if bt218.1 < (y215.length : Int) then (some (x183000, x183001, x183002, x183003, rd y215 bt218.1, x183005, x183006, bt218.2.1, bt218.2.2.1, bt218.2.2.2)) else (none)) else (none)))) else (if bt199.1 = 4 then ((some (([(-1), 1000000, 1000001] : List Int) : List Int)).bind fun y223 => ((spec_l01Src_n.f x1000 bt199.2.1 bt199.2.2.1 bt199.2.2.2 3).bind fun bt226 => (if 0 ≤ bt226.1 then (if bt226.1 < (y223.length : Int) then (some (x183000, x183001, x183002, x183003, x183004, rd y223 bt226.1, x183006, bt226.2.1, bt226.2.2.1, bt226.2.2.2)) else (none)) else (none)))) else ((spec_l01Src_l02IpOf.f x1000 bt199.2.1 bt199.2.2.1 bt199.2.2.2).bind fun bt231 => (some (x183000, x183001, x183002, bt231.1, x183004, x183005, x183006, bt231.2.1, bt231.2.2.1, bt231.2.2.2))))))))) else (some (x183000, x183001, x183002, x183003, x183004, x183005, x183006, bt195.2.1, bt195.2.2.1, bt195.2.2.2)))
def spec_l01Src_l03Route.f (k : Nat) (s0_0 : List Int) (s0_1 : Int) (s0_2 : Int) (s0_3 : Int) : Option (Int × Int × Int × Int × Int × Int × Bool × Int × Int × Int) := (spec_l01Src_n.f s0_0 s0_1 s0_2 s0_3 2).bind fun bt158 => ((spec_l01Src_n.f s0_0 bt158.2.1 bt158.2.2.1 bt158.2.2.2 3).bind fun bt162 => ((spec_l01Src_n.f s0_0 bt162.2.1 bt162.2.2.1 bt162.2.2.2 3).bind fun bt166 => ((spec_l01Src_n.f s0_0 bt166.2.1 bt166.2.2.1 bt166.2.2.2 4).bind fun bt170 => ((spec_l01Src_n.f s0_0 bt170.2.1 bt170.2.2.1 bt170.2.2.2 4).bind fun bt174 => ((spec_l01Src_one.f s0_0 bt174.2.1 bt174.2.2.1 bt174.2.2.2 8).bind fun bt178 => ((spec_l01Src_one.f s0_0 bt178.2.1 bt178.2.2.1 bt178.2.2.2 4).bind fun bt183 => (if bt183.1 = true then ((spec_l01Src_n.f s0_0 bt183.2.1 bt183.2.2.1 bt183.2.2.2 2).bind fun bt187 => ((spec_l01Src_n.f s0_0 bt187.2.1 bt187.2.2.1 bt187.2.2.2 4).bind fun bt191 => (spec_l01Src_l03Route.j0 k s0_0 bt191.2.1 bt191.2.2.1 bt191.2.2.2 3 (wrap64 (5 + bt187.1)) 0 0 (wrap64 (1 + bt191.1)) 0 false))) else (spec_l01Src_l03Route.j0 k s0_0 bt183.2.1 bt183.2.2.1 bt183.2.2.2 2 (wrap64 (5 + bt158.1)) (wrap64 (161 + bt162.1)) (wrap64 (11 + bt166.1)) (wrap64 (1 + bt170.1)) bt174.1 bt178.1))))))))
structure spec_l01Src_l03Route.ST (w0 w W : World) (g gr go : Nat) (l : List Int) (i m s : Int) (c : Array Value) : Prop where
 st : IsS117 w0 W g l i m s
 br : W.heap[gr]? = some (.cells c 24 (0, 0))
 bo : W.heap[go]? = some (.cells #[.int .i64 0, .int .i64 0, .int .i64 0, .int .i64 0, .int .i64 0, .int .i64 0, .bool false] 24 (0, 0))
 bl : Below w0.heap.size w0 W
 kp : KeepBut w W g none
 hr : w.heap.size ≤ gr
 ho : w.heap.size ≤ go
 hw : w0.heap.size ≤ w.heap.size
 ne : gr ≠ go
theorem spec_l01Src_l03Route.ST.call {w0 w W W1 : World} {g gr go : Nat} {l : List Int} {i m s i1 m1 s1 : Int} {c : Array Value} (h : spec_l01Src_l03Route.ST w0 w W g gr go l i m s c) (hI : IsS117 w0 W1 g l i1 m1 s1) (hB : Below w0.heap.size w0 W1) (hK : KeepBut W W1 g none) : spec_l01Src_l03Route.ST w0 w W1 g gr go l i1 m1 s1 c :=
 ⟨hI, hK.blk h.br (Ne.symm (h.st.ne_blk h.br (by decide))) (by simp), hK.blk h.bo (Ne.symm (h.st.ne_blk h.bo (by decide))) (by simp), hB, KeepBut.trans h.kp hK (.inl rfl), h.hr, h.ho, h.hw, h.ne⟩
theorem spec_l01Src_l03Route.ST.set {w0 w W : World} {g gr go : Nat} {l : List Int} {i m s : Int} {c : Array Value} (h : spec_l01Src_l03Route.ST w0 w W g gr go l i m s c) (j : Nat) (u : Value) : spec_l01Src_l03Route.ST w0 w (W.setCell ⟨gr, j, none⟩ u) g gr go l i m s (c.setIfInBounds j u) :=
 ⟨h.st.far (h.st.ne_blk h.br (by decide)) u, blk_set h.br j u, blk_far h.bo (Ne.symm h.ne) u, below_set h.bl (Nat.le_trans h.hw h.hr), keep_far h.kp h.hr u, h.hr, h.ho, h.hw, h.ne⟩
theorem spec_l01Src_l03Route.ST.alloc {w0 w W : World} {g gr go : Nat} {l : List Int} {i m s : Int} {c : Array Value} (h : spec_l01Src_l03Route.ST w0 w W g gr go l i m s c) (o : Obj) : spec_l01Src_l03Route.ST w0 w (W.alloc o) g gr go l i m s c :=
 ⟨h.st.alloc o, blk_alloc h.br o, blk_alloc h.bo o, below_alloc h.bl o, keep_alloc h.kp o, h.hr, h.ho, h.hw, h.ne⟩
theorem spec_l01Src_l03Route.ST.facts {w0 w W : World} {g gr go : Nat} {l : List Int} {i m s x0 x1 x2 x3 x4 x5 : Int} {x6 : Bool} (h : spec_l01Src_l03Route.ST w0 w W g gr go l i m s #[.int .i64 x0, .int .i64 x1, .int .i64 x2, .int .i64 x3, .int .i64 x4, .int .i64 x5, .bool x6]) :
  W.cell? ⟨gr, 0, none⟩ = some (.int .i64 x0) ∧ W.cell? ⟨gr, 1, none⟩ = some (.int .i64 x1) ∧ W.cell? ⟨gr, 2, none⟩ = some (.int .i64 x2) ∧ W.cell? ⟨gr, 3, none⟩ = some (.int .i64 x3) ∧ W.cell? ⟨gr, 4, none⟩ = some (.int .i64 x4) ∧ W.cell? ⟨gr, 5, none⟩ = some (.int .i64 x5) ∧ W.cell? ⟨gr, 6, none⟩ = some (.bool x6) ∧ W.frozen? ⟨gr, 0, none⟩ = false ∧ W.frozen? ⟨gr, 1, none⟩ = false ∧ W.frozen? ⟨gr, 2, none⟩ = false ∧ W.frozen? ⟨gr, 3, none⟩ = false ∧ W.frozen? ⟨gr, 4, none⟩ = false ∧ W.frozen? ⟨gr, 5, none⟩ = false ∧ W.frozen? ⟨gr, 6, none⟩ = false ∧ W.cell? ⟨go, 0, none⟩ = some (.int .i64 0) ∧ W.cell? ⟨go, 1, none⟩ = some (.int .i64 0) ∧ W.cell? ⟨go, 2, none⟩ = some (.int .i64 0) ∧ W.cell? ⟨go, 3, none⟩ = some (.int .i64 0) ∧ W.cell? ⟨go, 4, none⟩ = some (.int .i64 0) ∧ W.cell? ⟨go, 5, none⟩ = some (.int .i64 0) ∧ W.cell? ⟨go, 6, none⟩ = some (.bool false) ∧ W.frozen? ⟨go, 0, none⟩ = false ∧ W.frozen? ⟨go, 1, none⟩ = false ∧ W.frozen? ⟨go, 2, none⟩ = false ∧ W.frozen? ⟨go, 3, none⟩ = false ∧ W.frozen? ⟨go, 4, none⟩ = false ∧ W.frozen? ⟨go, 5, none⟩ = false ∧ W.frozen? ⟨go, 6, none⟩ = false := ⟨(blk_cell h.br 0).trans rfl, (blk_cell h.br 1).trans rfl, (blk_cell h.br 2).trans rfl, (blk_cell h.br 3).trans rfl, (blk_cell h.br 4).trans rfl, (blk_cell h.br 5).trans rfl, (blk_cell h.br 6).trans rfl, blk_frozen h.br 0, blk_frozen h.br 1, blk_frozen h.br 2, blk_frozen h.br 3, blk_frozen h.br 4, blk_frozen h.br 5, blk_frozen h.br 6, (blk_cell h.bo 0).trans rfl, (blk_cell h.bo 1).trans rfl, (blk_cell h.bo 2).trans rfl, (blk_cell h.bo 3).trans rfl, (blk_cell h.bo 4).trans rfl, (blk_cell h.bo 5).trans rfl, (blk_cell h.bo 6).trans rfl, blk_frozen h.bo 0, blk_frozen h.bo 1, blk_frozen h.bo 2, blk_frozen h.bo 3, blk_frozen h.bo 4, blk_frozen h.bo 5, blk_frozen h.bo 6⟩
theorem spec_l01Src_l03Route.fin {W : World} {g : Nat} {o0 o1 o2 o3 o4 o5 o6 : Value} (h : W.heap[g]? = some (.cells #[o0, o1, o2, o3, o4, o5, o6] 24 (0, 0))) (v0 v1 v2 v3 v4 v5 v6 : Value) : (((((((W.setCell ⟨g, 0, none⟩ v0).setCell ⟨g, 1, none⟩ v1).setCell ⟨g, 2, none⟩ v2).setCell ⟨g, 3, none⟩ v3).setCell ⟨g, 4, none⟩ v4).setCell ⟨g, 5, none⟩ v5).setCell ⟨g, 6, none⟩ v6).heap[g]? = some (.cells #[v0, v1, v2, v3, v4, v5, v6] 24 (0, 0)) := by
 have h0 := blk_set h 0 v0
 have h1 := blk_set h0 1 v1
 have h2 := blk_set h1 2 v2
 have h3 := blk_set h2 3 v3
 have h4 := blk_set h3 4 v4
 have h5 := blk_set h4 5 v5
 have h6 := blk_set h5 6 v6
 simpa using h6
theorem spec_l01Src_l03Route.ST.all {w0 w W : World} {g gr go : Nat} {l : List Int} {i m s : Int} {o0 o1 o2 o3 o4 o5 o6 : Value} (h : spec_l01Src_l03Route.ST w0 w W g gr go l i m s #[o0, o1, o2, o3, o4, o5, o6]) (v0 v1 v2 v3 v4 v5 v6 : Value) : spec_l01Src_l03Route.ST w0 w (((((((W.setCell ⟨gr, 0, none⟩ v0).setCell ⟨gr, 1, none⟩ v1).setCell ⟨gr, 2, none⟩ v2).setCell ⟨gr, 3, none⟩ v3).setCell ⟨gr, 4, none⟩ v4).setCell ⟨gr, 5, none⟩ v5).setCell ⟨gr, 6, none⟩ v6) g gr go l i m s #[v0, v1, v2, v3, v4, v5, v6] := by
 simpa using ((((((h.set 0 v0).set 1 v1).set 2 v2).set 3 v3).set 4 v4).set 5 v5).set 6 v6
theorem spec_l01Src_l03Route.ST.end_ {w0 w W : World} {g gr go : Nat} {l : List Int} {i m s : Int} {c : Array Value} (h : spec_l01Src_l03Route.ST w0 w W g gr go l i m s c) (v0 v1 v2 v3 v4 v5 v6 : Value) : IsS117 w0 (((((((W.setCell ⟨go, 0, none⟩ v0).setCell ⟨go, 1, none⟩ v1).setCell ⟨go, 2, none⟩ v2).setCell ⟨go, 3, none⟩ v3).setCell ⟨go, 4, none⟩ v4).setCell ⟨go, 5, none⟩ v5).setCell ⟨go, 6, none⟩ v6) g l i m s ∧ Below w0.heap.size w0 (((((((W.setCell ⟨go, 0, none⟩ v0).setCell ⟨go, 1, none⟩ v1).setCell ⟨go, 2, none⟩ v2).setCell ⟨go, 3, none⟩ v3).setCell ⟨go, 4, none⟩ v4).setCell ⟨go, 5, none⟩ v5).setCell ⟨go, 6, none⟩ v6) ∧ KeepBut w (((((((W.setCell ⟨go, 0, none⟩ v0).setCell ⟨go, 1, none⟩ v1).setCell ⟨go, 2, none⟩ v2).setCell ⟨go, 3, none⟩ v3).setCell ⟨go, 4, none⟩ v4).setCell ⟨go, 5, none⟩ v5).setCell ⟨go, 6, none⟩ v6) g none :=
 ⟨(IsS117.far (p := ⟨go, 6, none⟩) (IsS117.far (p := ⟨go, 5, none⟩) (IsS117.far (p := ⟨go, 4, none⟩) (IsS117.far (p := ⟨go, 3, none⟩) (IsS117.far (p := ⟨go, 2, none⟩) (IsS117.far (p := ⟨go, 1, none⟩) (IsS117.far (p := ⟨go, 0, none⟩) h.st (h.st.ne_blk h.bo (by decide)) _) (h.st.ne_blk h.bo (by decide)) _) (h.st.ne_blk h.bo (by decide)) _) (h.st.ne_blk h.bo (by decide)) _) (h.st.ne_blk h.bo (by decide)) _) (h.st.ne_blk h.bo (by decide)) _) (h.st.ne_blk h.bo (by decide)) _), (below_set (below_set (below_set (below_set (below_set (below_set (below_set h.bl (Nat.le_trans h.hw h.ho)) (Nat.le_trans h.hw h.ho)) (Nat.le_trans h.hw h.ho)) (Nat.le_trans h.hw h.ho)) (Nat.le_trans h.hw h.ho)) (Nat.le_trans h.hw h.ho)) (Nat.le_trans h.hw h.ho)), (keep_far (p := ⟨go, 6, none⟩) (keep_far (p := ⟨go, 5, none⟩) (keep_far (p := ⟨go, 4, none⟩) (keep_far (p := ⟨go, 3, none⟩) (keep_far (p := ⟨go, 2, none⟩) (keep_far (p := ⟨go, 1, none⟩) (keep_far (p := ⟨go, 0, none⟩) h.kp h.ho _) h.ho _) h.ho _) h.ho _) h.ho _) h.ho _) h.ho _)⟩
theorem spec_l01Src_l03Route.gen {P : Program} {c : Code} {Q : Exit → Act → World → Prop} {a : Act} {W : World} (p : World → Prop) (h : p W) (k : ∀ W1, p W1 → Code.wp P c Q a W1) : Code.wp P c Q a W := k W h
structure spec_l01Src_l03Route.S0 (w0 w W : World) (g go : Nat) (l : List Int) (i m s : Int) : Prop where
 st : IsS117 w0 W g l i m s
 bo : W.heap[go]? = some (.cells #[.int .i64 0, .int .i64 0, .int .i64 0, .int .i64 0, .int .i64 0, .int .i64 0, .bool false] 24 (0, 0))
 bl : Below w0.heap.size w0 W
 kp : KeepBut w W g none
 ho : w.heap.size ≤ go
 hw : w0.heap.size ≤ w.heap.size
theorem spec_l01Src_l03Route.S0.call {w0 w W W1 : World} {g go : Nat} {l : List Int} {i m s i1 m1 s1 : Int} (h : spec_l01Src_l03Route.S0 w0 w W g go l i m s) (hI : IsS117 w0 W1 g l i1 m1 s1) (hB : Below w0.heap.size w0 W1) (hK : KeepBut W W1 g none) : spec_l01Src_l03Route.S0 w0 w W1 g go l i1 m1 s1 :=
 ⟨hI, hK.blk h.bo (Ne.symm (h.st.ne_blk h.bo (by decide))) (by simp), hB, KeepBut.trans h.kp hK (.inl rfl), h.ho, h.hw⟩
theorem spec_l01Src_l03Route.S0.box {w0 w W : World} {g go : Nat} {l : List Int} {i m s : Int} (h : spec_l01Src_l03Route.S0 w0 w W g go l i m s) (c : Array Value) : spec_l01Src_l03Route.ST w0 w (W.alloc (.cells c 24)) g W.heap.size go l i m s c :=
 ⟨h.st.alloc _, blk_new W _, blk_alloc h.bo _, below_alloc h.bl _, keep_alloc h.kp _, h.kp.1, h.ho, h.hw, Ne.symm (Nat.ne_of_lt (blk_lt h.bo))⟩
set_option maxHeartbeats 3200000 in
set_option maxRecDepth 100000 in
theorem spec_l01Src_l03Route.calls (k : Nat) (g : Nat) (s0_0 : List Int) (s0_1 : Int) (s0_2 : Int) (s0_3 : Int) (r1 : Int) (r2 : Int) (r3 : Int) (r4 : Int) (r5 : Int) (r6 : Int) (r7 : Bool) (r8 : Int) (r9 : Int) (r10 : Int) (w0 w : World) (hI : IsS117 w0 w g s0_0 s0_1 s0_2 s0_3) (hB : Below w0.heap.size w0 w) (h : spec_l01Src_l03Route.f k s0_0 s0_1 s0_2 s0_3 = some (r1, r2, r3, r4, r5, r6, r7, r8, r9, r10)) :
  Calls Try.prog 62 #[.pointer (some ⟨g, 0, none⟩)] w fun e w' => e = .returned (.agg #[.int .i64 r1, .int .i64 r2, .int .i64 r3, .int .i64 r4, .int .i64 r5, .int .i64 r6, .bool r7]) ∧ IsS117 w0 w' g s0_0 r8 r9 r10 ∧ Below w0.heap.size w0 w' ∧ KeepBut w w' g none := by
 have huR := Try.underlying24
 have S := Aside0.mk (⟨hI.alloc _, blk_new w _, below_alloc hB _, keep_alloc (KeepBut.refl w g none) _, Nat.le_refl _, hB.size⟩ : spec_l01Src_l03Route.S0 w0 w (w.alloc (.cells #[.int .i64 0, .int .i64 0, .int .i64 0, .int .i64 0, .int .i64 0, .int .i64 0, .bool false] 24)) g w.heap.size s0_0 s0_1 s0_2 s0_3)
 clear hI hB
 unfold spec_l01Src_l03Route.f at h
 go_enter Try.func62, Try.ntmps62
 go_upto_region 1 with (fail)
 obtain ⟨go, hgo⟩ : ∃ go, go = w.heap.size := ⟨_, rfl⟩
 rw [← hgo] at S ⊢
 generalize w.alloc (.cells #[.int .i64 0, .int .i64 0, .int .i64 0, .int .i64 0, .int .i64 0, .int .i64 0, .bool false] 24) = W0 at S ⊢
 clear hgo
 replace h := Option.bind_eq_some_iff.mp h
 obtain ⟨⟨z0, i0, m0, u0⟩, q, h⟩ := h
 have Q := Aside0.mk q
 clear q
 have H := Aside0.mk h
 clear h
 go_wp2_with fail
 go_at_call 65
 with_reducible refine (spec_l01Src_n.calls g s0_0 _ _ _ 2 _ _ _ _ w0 _ S.out.st S.out.bl Q.out).mono ?_
 rintro e w_ ⟨rfl, hI, hB, hK⟩
 replace S := Aside0.mk (S.out.call hI hB hK)
 clear Q hI hB hK
 have h := H.out
 clear H
 (try dsimp only at h)
 replace h := Option.bind_eq_some_iff.mp h
 obtain ⟨⟨z1, i1, m1, u1⟩, q, h⟩ := h
 have Q := Aside0.mk q
 clear q
 have H := Aside0.mk h
 clear h
 go_wp2_with fail
 go_at_call 65
 with_reducible refine (spec_l01Src_n.calls g s0_0 _ _ _ 3 _ _ _ _ w0 _ S.out.st S.out.bl Q.out).mono ?_
 rintro e w_ ⟨rfl, hI, hB, hK⟩
 replace S := Aside0.mk (S.out.call hI hB hK)
 clear Q hI hB hK
 have h := H.out
 clear H
 (try dsimp only at h)
 replace h := Option.bind_eq_some_iff.mp h
 obtain ⟨⟨z2, i2, m2, u2⟩, q, h⟩ := h
 have Q := Aside0.mk q
 clear q
 have H := Aside0.mk h
 clear h
 go_wp2_with fail
 go_at_call 65
 with_reducible refine (spec_l01Src_n.calls g s0_0 _ _ _ 3 _ _ _ _ w0 _ S.out.st S.out.bl Q.out).mono ?_
 rintro e w_ ⟨rfl, hI, hB, hK⟩
 replace S := Aside0.mk (S.out.call hI hB hK)
 clear Q hI hB hK
 have h := H.out
 clear H
 (try dsimp only at h)
 replace h := Option.bind_eq_some_iff.mp h
 obtain ⟨⟨z3, i3, m3, u3⟩, q, h⟩ := h
 have Q := Aside0.mk q
 clear q
 have H := Aside0.mk h
 clear h
 go_wp2_with fail
 go_at_call 65
 with_reducible refine (spec_l01Src_n.calls g s0_0 _ _ _ 4 _ _ _ _ w0 _ S.out.st S.out.bl Q.out).mono ?_
 rintro e w_ ⟨rfl, hI, hB, hK⟩
 replace S := Aside0.mk (S.out.call hI hB hK)
 clear Q hI hB hK
 have h := H.out
 clear H
 (try dsimp only at h)
 replace h := Option.bind_eq_some_iff.mp h
 obtain ⟨⟨z4, i4, m4, u4⟩, q, h⟩ := h
 have Q := Aside0.mk q
 clear q
 have H := Aside0.mk h
 clear h
 go_wp2_with fail
 go_at_call 65
 with_reducible refine (spec_l01Src_n.calls g s0_0 _ _ _ 4 _ _ _ _ w0 _ S.out.st S.out.bl Q.out).mono ?_
 rintro e w_ ⟨rfl, hI, hB, hK⟩
 replace S := Aside0.mk (S.out.call hI hB hK)
 clear Q hI hB hK
 have h := H.out
 clear H
 (try dsimp only at h)
 replace h := Option.bind_eq_some_iff.mp h
 obtain ⟨⟨z5, i5, m5, u5⟩, q, h⟩ := h
 have Q := Aside0.mk q
 clear q
 have H := Aside0.mk h
 clear h
 go_wp2_with fail
 go_at_call 69
 with_reducible refine (spec_l01Src_one.calls g s0_0 _ _ _ 8 _ _ _ _ w0 _ S.out.st S.out.bl Q.out).mono ?_
 rintro e w_ ⟨rfl, hI, hB, hK⟩
 replace S := Aside0.mk (S.out.call hI hB hK)
 clear Q hI hB hK
 have h := H.out
 clear H
 (try dsimp only at h)
 go_upto_region 2 with (fail)
 have S1 := Aside0.mk (S.out.box #[.int .i64 2, .int .i64 (wrap64 (5 + z0)), .int .i64 (wrap64 (161 + z1)), .int .i64 (wrap64 (11 + z2)), .int .i64 (wrap64 (1 + z3)), .int .i64 z4, .bool z5])
 obtain ⟨gr, hgr⟩ : ∃ gr, gr = w_.heap.size := ⟨_, rfl⟩
 rw [← hgr] at S1 ⊢
 refine spec_l01Src_l03Route.gen (fun W => spec_l01Src_l03Route.ST w0 w W g gr go s0_0 _ _ _ #[.int .i64 2, .int .i64 (wrap64 (5 + z0)), .int .i64 (wrap64 (161 + z1)), .int .i64 (wrap64 (11 + z2)), .int .i64 (wrap64 (1 + z3)), .int .i64 z4, .bool z5]) S1.out ?_
 clear S S1 hgr
 intro W_ h_
 have S := Aside0.mk h_
 clear h_
 replace h := Option.bind_eq_some_iff.mp h
 obtain ⟨⟨z7, i7, m7, u7⟩, q, h⟩ := h
 have Q := Aside0.mk q
 clear q
 have H := Aside0.mk h
 clear h
 go_wp2_with fail
 go_at_call 69
 with_reducible refine (spec_l01Src_one.calls g s0_0 _ _ _ 4 _ _ _ _ w0 _ S.out.st S.out.bl Q.out).mono ?_
 rintro e w_ ⟨rfl, hI, hB, hK⟩
 replace S := Aside0.mk (S.out.call hI hB hK)
 clear Q hI hB hK
 have h := H.out
 clear H
 (try dsimp only at h)
 cases z7 with
 | true =>
  rw [if_pos rfl] at h
  replace h := Option.bind_eq_some_iff.mp h
  obtain ⟨⟨y0, i8, m8, u8⟩, q, h⟩ := h
  have Q := Aside0.mk q
  clear q
  have H := Aside0.mk h
  clear h
  go_wp2_with fail
  go_at_call 65
  with_reducible refine (spec_l01Src_n.calls g s0_0 _ _ _ 2 _ _ _ _ w0 _ S.out.st S.out.bl Q.out).mono ?_
  rintro e w_ ⟨rfl, hI, hB, hK⟩
  replace S := Aside0.mk (S.out.call hI hB hK)
  clear Q hI hB hK
  have h := H.out
  clear H
  (try dsimp only at h)
  replace h := Option.bind_eq_some_iff.mp h
  obtain ⟨⟨y1, i9, m9, u9⟩, q, h⟩ := h
  have Q := Aside0.mk q
  clear q
  have H := Aside0.mk h
  clear h
  go_wp2_with fail
  go_at_call 65
  with_reducible refine (spec_l01Src_n.calls g s0_0 _ _ _ 4 _ _ _ _ w0 _ S.out.st S.out.bl Q.out).mono ?_
  rintro e w_ ⟨rfl, hI, hB, hK⟩
  replace S := Aside0.mk (S.out.call hI hB hK)
  clear Q hI hB hK
  have h := H.out
  clear H
  (try dsimp only at h)
  obtain ⟨c0, c1, c2, c3, c4, c5, c6, f0, f1, f2, f3, f4, f5, f6, o0, o1, o2, o3, o4, o5, o6, q0, q1, q2, q3, q4, q5, q6⟩ := S.out.facts
  go_upto_region 4 with (fail)
  refine spec_l01Src_l03Route.gen (fun W => spec_l01Src_l03Route.ST w0 w W g gr go s0_0 _ _ _ #[.int .i64 3, .int .i64 (wrap64 (5 + y0)), .int .i64 0, .int .i64 0, .int .i64 (wrap64 (1 + y1)), .int .i64 0, .bool false]) (S.out.all _ _ _ _ _ _ _) ?_
  clear c0 c1 c2 c3 c4 c5 c6 f0 f1 f2 f3 f4 f5 f6 o0 o1 o2 o3 o4 o5 o6 q0 q1 q2 q3 q4 q5 q6
  clear S
  intro W_ h_
  have S := Aside0.mk h_
  clear h_
  rcases k with _ | k
  ·rw [spec_l01Src_l03Route.j0] at h; cases h
  rw [spec_l01Src_l03Route.j0] at h
  replace h := Option.bind_eq_some_iff.mp h
  obtain ⟨⟨z15, i15, m15, u15⟩, q, h⟩ := h
  have Q := Aside0.mk q
  clear q
  have H := Aside0.mk h
  clear h
  go_wp2_with fail
  go_at_call 69
  with_reducible refine (spec_l01Src_one.calls g s0_0 _ _ _ 15 _ _ _ _ w0 _ S.out.st S.out.bl Q.out).mono ?_
  rintro e w_ ⟨rfl, hI, hB, hK⟩
  replace S := Aside0.mk (S.out.call hI hB hK)
  clear Q hI hB hK
  have h := H.out
  clear H
  (try dsimp only at h)
  cases z15 with
  | true =>
   rw [if_pos rfl] at h
   replace h := Option.bind_eq_some_iff.mp h
   obtain ⟨⟨z6, i6, m6, u6⟩, q, h⟩ := h
   have Q := Aside0.mk q
   clear q
   have H := Aside0.mk h
   clear h
   go_wp2_with fail
   go_at_call 65
   with_reducible refine (spec_l01Src_n.calls g s0_0 _ _ _ 6 _ _ _ _ w0 _ S.out.st S.out.bl Q.out).mono ?_
   rintro e w_ ⟨rfl, hI, hB, hK⟩
   replace S := Aside0.mk (S.out.call hI hB hK)
   clear Q hI hB hK
   have h := H.out
   clear H
   (try dsimp only at h)
   by_cases q0_ : z6 = 0
   ·rw [if_pos q0_] at h
    have b0 : (z6 == 0) = true := beq_iff_eq.mpr q0_
    replace h := Option.bind_eq_some_iff.mp h
    obtain ⟨⟨z, z1, z2, z3⟩, q, h⟩ := h
    have Q := Aside0.mk q
    clear q
    have H := Aside0.mk h
    clear h
    go_wp2_with fail
    go_at_call 65
    with_reducible refine (spec_l01Src_n.calls g s0_0 _ _ _ 4 _ _ _ _ w0 _ S.out.st S.out.bl Q.out).mono ?_
    rintro e w_ ⟨rfl, hI, hB, hK⟩
    replace S := Aside0.mk (S.out.call hI hB hK)
    clear Q hI hB hK
    have h := H.out
    clear H
    (try dsimp only at h)
    simp only [Option.some.injEq, Prod.mk.injEq] at h
    obtain ⟨rfl, rfl, rfl, rfl, rfl, rfl, rfl, rfl, rfl, rfl⟩ := h
    obtain ⟨c0, c1, c2, c3, c4, c5, c6, f0, f1, f2, f3, f4, f5, f6, o0, o1, o2, o3, o4, o5, o6, q0, q1, q2, q3, q4, q5, q6⟩ := S.out.facts
    go_upto_region 17 with (fail)
    refine spec_l01Src_l03Route.gen (fun W => spec_l01Src_l03Route.ST w0 w W g gr go s0_0 _ _ _ _) (S.out.set 0 _) ?_
    clear c0 c1 c2 c3 c4 c5 c6 f0 f1 f2 f3 f4 f5 f6 o0 o1 o2 o3 o4 o5 o6 q0 q1 q2 q3 q4 q5 q6
    clear S
    intro W_ h_
    have S := Aside0.mk h_
    clear h_
    obtain ⟨c0, c1, c2, c3, c4, c5, c6, f0, f1, f2, f3, f4, f5, f6, o0, o1, o2, o3, o4, o5, o6, q0, q1, q2, q3, q4, q5, q6⟩ := S.out.facts
    go_wp2_with fail
    refine bodyPost_ret (results_cell_row rfl _ _ go 24 _ (0, 0) _ rfl (spec_l01Src_l03Route.fin S.out.bo _ _ _ _ _ _ _) Try.underlying24 rfl (by kernel_rfl)) rfl ⟨rfl, S.out.end_ _ _ _ _ _ _ _⟩
   rw [if_neg q0_] at h
   have b0 : (z6 == 0) = false := beq_eq_false_iff_ne.mpr q0_
   by_cases q1_ : z6 = 1
   ·rw [if_pos q1_] at h
    have b1 : (z6 == 1) = true := beq_iff_eq.mpr q1_
    replace h := Option.bind_eq_some_iff.mp h
    obtain ⟨⟨z, z1, z2, z3⟩, q, h⟩ := h
    have Q := Aside0.mk q
    clear q
    have H := Aside0.mk h
    clear h
    go_wp2_with fail
    go_at_call 116
    with_reducible refine (spec_l01Src_l02VniOf.calls g s0_0 _ _ _ _ _ _ _ w0 _ S.out.st S.out.bl Q.out).mono ?_
    rintro e w_ ⟨rfl, hI, hB, hK⟩
    replace S := Aside0.mk (S.out.call hI hB hK)
    clear Q hI hB hK
    have h := H.out
    clear H
    (try dsimp only at h)
    simp only [Option.some.injEq, Prod.mk.injEq] at h
    obtain ⟨rfl, rfl, rfl, rfl, rfl, rfl, rfl, rfl, rfl, rfl⟩ := h
    obtain ⟨c0, c1, c2, c3, c4, c5, c6, f0, f1, f2, f3, f4, f5, f6, o0, o1, o2, o3, o4, o5, o6, q0, q1, q2, q3, q4, q5, q6⟩ := S.out.facts
    go_upto_region 17 with (fail)
    refine spec_l01Src_l03Route.gen (fun W => spec_l01Src_l03Route.ST w0 w W g gr go s0_0 _ _ _ _) (S.out.set 1 _) ?_
    clear c0 c1 c2 c3 c4 c5 c6 f0 f1 f2 f3 f4 f5 f6 o0 o1 o2 o3 o4 o5 o6 q0 q1 q2 q3 q4 q5 q6
    clear S
    intro W_ h_
    have S := Aside0.mk h_
    clear h_
    obtain ⟨c0, c1, c2, c3, c4, c5, c6, f0, f1, f2, f3, f4, f5, f6, o0, o1, o2, o3, o4, o5, o6, q0, q1, q2, q3, q4, q5, q6⟩ := S.out.facts
    go_wp2_with fail
    refine bodyPost_ret (results_cell_row rfl _ _ go 24 _ (0, 0) _ rfl (spec_l01Src_l03Route.fin S.out.bo _ _ _ _ _ _ _) Try.underlying24 rfl (by kernel_rfl)) rfl ⟨rfl, S.out.end_ _ _ _ _ _ _ _⟩
   rw [if_neg q1_] at h
   have b1 : (z6 == 1) = false := beq_eq_false_iff_ne.mpr q1_
   by_cases q2_ : z6 = 2
   ·rw [if_pos q2_] at h
    have b2 : (z6 == 2) = true := beq_iff_eq.mpr q2_
    replace h := Option.bind_eq_some_iff.mp h
    obtain ⟨⟨z, z1, z2, z3⟩, q, h⟩ := h
    have Q := Aside0.mk q
    clear q
    have H := Aside0.mk h
    clear h
    go_wp2_with fail
    go_at_call 117
    with_reducible refine (spec_l01Src_l02MacOf.calls g s0_0 _ _ _ _ _ _ _ w0 _ S.out.st S.out.bl Q.out).mono ?_
    rintro e w_ ⟨rfl, hI, hB, hK⟩
    replace S := Aside0.mk (S.out.call hI hB hK)
    clear Q hI hB hK
    have h := H.out
    clear H
    (try dsimp only at h)
    simp only [Option.some.injEq, Prod.mk.injEq] at h
    obtain ⟨rfl, rfl, rfl, rfl, rfl, rfl, rfl, rfl, rfl, rfl⟩ := h
    obtain ⟨c0, c1, c2, c3, c4, c5, c6, f0, f1, f2, f3, f4, f5, f6, o0, o1, o2, o3, o4, o5, o6, q0, q1, q2, q3, q4, q5, q6⟩ := S.out.facts
    go_upto_region 17 with (fail)
    refine spec_l01Src_l03Route.gen (fun W => spec_l01Src_l03Route.ST w0 w W g gr go s0_0 _ _ _ _) (S.out.set 2 _) ?_
    clear c0 c1 c2 c3 c4 c5 c6 f0 f1 f2 f3 f4 f5 f6 o0 o1 o2 o3 o4 o5 o6 q0 q1 q2 q3 q4 q5 q6
    clear S
    intro W_ h_
    have S := Aside0.mk h_
    clear h_
    obtain ⟨c0, c1, c2, c3, c4, c5, c6, f0, f1, f2, f3, f4, f5, f6, o0, o1, o2, o3, o4, o5, o6, q0, q1, q2, q3, q4, q5, q6⟩ := S.out.facts
    go_wp2_with fail
    refine bodyPost_ret (results_cell_row rfl _ _ go 24 _ (0, 0) _ rfl (spec_l01Src_l03Route.fin S.out.bo _ _ _ _ _ _ _) Try.underlying24 rfl (by kernel_rfl)) rfl ⟨rfl, S.out.end_ _ _ _ _ _ _ _⟩
   rw [if_neg q2_] at h
   have b2 : (z6 == 2) = false := beq_eq_false_iff_ne.mpr q2_
   by_cases q3_ : z6 = 3
   ·rw [if_pos q3_] at h
    have b3 : (z6 == 3) = true := beq_iff_eq.mpr q3_
    replace h := Option.bind_eq_some_iff.mp h
    obtain ⟨y_, hy_, h⟩ := h
    obtain rfl := Option.some.inj hy_
    clear hy_
    replace h := Option.bind_eq_some_iff.mp h
    obtain ⟨⟨z, z1, z2, z3⟩, q, h⟩ := h
    have Q := Aside0.mk q
    clear q
    have H := Aside0.mk h
    clear h
    go_wp2_with fail
    have LB := Aside0.mk (blk_new w_ (Obj.cells #[.int .i64 0, .int .i64 4, .int .i64 5] 2))
    replace S := Aside0.mk (S.out.alloc (Obj.cells #[.int .i64 0, .int .i64 4, .int .i64 5] 2))
    obtain ⟨gl, hgl⟩ : ∃ gl, gl = w_.heap.size := ⟨_, rfl⟩
    rw [← hgl] at LB ⊢
    clear hgl
    go_at_call 65
    with_reducible refine (spec_l01Src_n.calls g s0_0 _ _ _ 3 _ _ _ _ w0 _ S.out.st S.out.bl Q.out).mono ?_
    rintro e w_ ⟨rfl, hI, hB, hK⟩
    replace LB := Aside0.mk (hK.blk LB.out (Ne.symm (S.out.st.ne_blk LB.out (by decide))) (by simp))
    replace S := Aside0.mk (S.out.call hI hB hK)
    clear Q hI hB hK
    have h := H.out
    clear H
    (try dsimp only at h)
    have l0_ := (blk_cell LB.out 0).trans rfl
    have l1_ := (blk_cell LB.out 1).trans rfl
    have l2_ := (blk_cell LB.out 2).trans rfl
    by_cases zz0 : 0 ≤ z
    rotate_left
    ·rw [if_neg zz0] at h; cases h
    rw [if_pos zz0] at h
    by_cases zz1 : z < 3
    rotate_left
    ·rw [if_neg (by simpa using zz1)] at h; cases h
    rw [if_pos (by simpa using zz1)] at h
    obtain rfl | rfl | rfl : z = 0 ∨ z = 1 ∨ z = 2 := by omega
    ·skip
     clear zz0 zz1
     simp only [Option.some.injEq, Prod.mk.injEq] at h
     obtain ⟨rfl, rfl, rfl, rfl, rfl, rfl, rfl, rfl, rfl, rfl⟩ := h
     obtain ⟨c0, c1, c2, c3, c4, c5, c6, f0, f1, f2, f3, f4, f5, f6, o0, o1, o2, o3, o4, o5, o6, q0, q1, q2, q3, q4, q5, q6⟩ := S.out.facts
     go_upto_region 17 with (fail)
     refine spec_l01Src_l03Route.gen (fun W => spec_l01Src_l03Route.ST w0 w W g gr go s0_0 _ _ _ _) (S.out.set 4 _) ?_
     clear c0 c1 c2 c3 c4 c5 c6 f0 f1 f2 f3 f4 f5 f6 o0 o1 o2 o3 o4 o5 o6 q0 q1 q2 q3 q4 q5 q6
     clear S
     intro W_ h_
     have S := Aside0.mk h_
     clear h_
     obtain ⟨c0, c1, c2, c3, c4, c5, c6, f0, f1, f2, f3, f4, f5, f6, o0, o1, o2, o3, o4, o5, o6, q0, q1, q2, q3, q4, q5, q6⟩ := S.out.facts
     go_wp2_with fail
     refine bodyPost_ret (results_cell_row rfl _ _ go 24 _ (0, 0) _ rfl (spec_l01Src_l03Route.fin S.out.bo _ _ _ _ _ _ _) Try.underlying24 rfl (by kernel_rfl)) rfl ⟨rfl, S.out.end_ _ _ _ _ _ _ _⟩
    ·skip
     clear zz0 zz1
     simp only [Option.some.injEq, Prod.mk.injEq] at h
     obtain ⟨rfl, rfl, rfl, rfl, rfl, rfl, rfl, rfl, rfl, rfl⟩ := h
     obtain ⟨c0, c1, c2, c3, c4, c5, c6, f0, f1, f2, f3, f4, f5, f6, o0, o1, o2, o3, o4, o5, o6, q0, q1, q2, q3, q4, q5, q6⟩ := S.out.facts
     go_upto_region 17 with (fail)
     refine spec_l01Src_l03Route.gen (fun W => spec_l01Src_l03Route.ST w0 w W g gr go s0_0 _ _ _ _) (S.out.set 4 _) ?_
     clear c0 c1 c2 c3 c4 c5 c6 f0 f1 f2 f3 f4 f5 f6 o0 o1 o2 o3 o4 o5 o6 q0 q1 q2 q3 q4 q5 q6
     clear S
     intro W_ h_
     have S := Aside0.mk h_
     clear h_
     obtain ⟨c0, c1, c2, c3, c4, c5, c6, f0, f1, f2, f3, f4, f5, f6, o0, o1, o2, o3, o4, o5, o6, q0, q1, q2, q3, q4, q5, q6⟩ := S.out.facts
     go_wp2_with fail
     refine bodyPost_ret (results_cell_row rfl _ _ go 24 _ (0, 0) _ rfl (spec_l01Src_l03Route.fin S.out.bo _ _ _ _ _ _ _) Try.underlying24 rfl (by kernel_rfl)) rfl ⟨rfl, S.out.end_ _ _ _ _ _ _ _⟩
    ·skip
     clear zz0 zz1
     simp only [Option.some.injEq, Prod.mk.injEq] at h
     obtain ⟨rfl, rfl, rfl, rfl, rfl, rfl, rfl, rfl, rfl, rfl⟩ := h
     obtain ⟨c0, c1, c2, c3, c4, c5, c6, f0, f1, f2, f3, f4, f5, f6, o0, o1, o2, o3, o4, o5, o6, q0, q1, q2, q3, q4, q5, q6⟩ := S.out.facts
     go_upto_region 17 with (fail)
     refine spec_l01Src_l03Route.gen (fun W => spec_l01Src_l03Route.ST w0 w W g gr go s0_0 _ _ _ _) (S.out.set 4 _) ?_
     clear c0 c1 c2 c3 c4 c5 c6 f0 f1 f2 f3 f4 f5 f6 o0 o1 o2 o3 o4 o5 o6 q0 q1 q2 q3 q4 q5 q6
     clear S
     intro W_ h_
     have S := Aside0.mk h_
     clear h_
     obtain ⟨c0, c1, c2, c3, c4, c5, c6, f0, f1, f2, f3, f4, f5, f6, o0, o1, o2, o3, o4, o5, o6, q0, q1, q2, q3, q4, q5, q6⟩ := S.out.facts
     go_wp2_with fail
     refine bodyPost_ret (results_cell_row rfl _ _ go 24 _ (0, 0) _ rfl (spec_l01Src_l03Route.fin S.out.bo _ _ _ _ _ _ _) Try.underlying24 rfl (by kernel_rfl)) rfl ⟨rfl, S.out.end_ _ _ _ _ _ _ _⟩
   rw [if_neg q3_] at h
   have b3 : (z6 == 3) = false := beq_eq_false_iff_ne.mpr q3_
   by_cases q4_ : z6 = 4
   ·rw [if_pos q4_] at h
    have b4 : (z6 == 4) = true := beq_iff_eq.mpr q4_
    replace h := Option.bind_eq_some_iff.mp h
    obtain ⟨y_, hy_, h⟩ := h
    obtain rfl := Option.some.inj hy_
    clear hy_
    replace h := Option.bind_eq_some_iff.mp h
    obtain ⟨⟨z, z1, z2, z3⟩, q, h⟩ := h
    have Q := Aside0.mk q
    clear q
    have H := Aside0.mk h
    clear h
    go_wp2_with fail
    have LB := Aside0.mk (blk_new w_ (Obj.cells #[.int .i64 (-1), .int .i64 1000000, .int .i64 1000001] 2))
    replace S := Aside0.mk (S.out.alloc (Obj.cells #[.int .i64 (-1), .int .i64 1000000, .int .i64 1000001] 2))
    obtain ⟨gl, hgl⟩ : ∃ gl, gl = w_.heap.size := ⟨_, rfl⟩
    rw [← hgl] at LB ⊢
    clear hgl
    go_at_call 65
    with_reducible refine (spec_l01Src_n.calls g s0_0 _ _ _ 3 _ _ _ _ w0 _ S.out.st S.out.bl Q.out).mono ?_
    rintro e w_ ⟨rfl, hI, hB, hK⟩
    replace LB := Aside0.mk (hK.blk LB.out (Ne.symm (S.out.st.ne_blk LB.out (by decide))) (by simp))
    replace S := Aside0.mk (S.out.call hI hB hK)
    clear Q hI hB hK
    have h := H.out
    clear H
    (try dsimp only at h)
    have l0_ := (blk_cell LB.out 0).trans rfl
    have l1_ := (blk_cell LB.out 1).trans rfl
    have l2_ := (blk_cell LB.out 2).trans rfl
    by_cases zz0 : 0 ≤ z
    rotate_left
    ·rw [if_neg zz0] at h; cases h
    rw [if_pos zz0] at h
    by_cases zz1 : z < 3
    rotate_left
    ·rw [if_neg (by simpa using zz1)] at h; cases h
    rw [if_pos (by simpa using zz1)] at h
    obtain rfl | rfl | rfl : z = 0 ∨ z = 1 ∨ z = 2 := by omega
    ·skip
     clear zz0 zz1
     simp only [Option.some.injEq, Prod.mk.injEq] at h
     obtain ⟨rfl, rfl, rfl, rfl, rfl, rfl, rfl, rfl, rfl, rfl⟩ := h
     obtain ⟨c0, c1, c2, c3, c4, c5, c6, f0, f1, f2, f3, f4, f5, f6, o0, o1, o2, o3, o4, o5, o6, q0, q1, q2, q3, q4, q5, q6⟩ := S.out.facts
     go_upto_region 17 with (fail)
     refine spec_l01Src_l03Route.gen (fun W => spec_l01Src_l03Route.ST w0 w W g gr go s0_0 _ _ _ _) (S.out.set 5 _) ?_
     clear c0 c1 c2 c3 c4 c5 c6 f0 f1 f2 f3 f4 f5 f6 o0 o1 o2 o3 o4 o5 o6 q0 q1 q2 q3 q4 q5 q6
     clear S
     intro W_ h_
     have S := Aside0.mk h_
     clear h_
     obtain ⟨c0, c1, c2, c3, c4, c5, c6, f0, f1, f2, f3, f4, f5, f6, o0, o1, o2, o3, o4, o5, o6, q0, q1, q2, q3, q4, q5, q6⟩ := S.out.facts
     go_wp2_with fail
     refine bodyPost_ret (results_cell_row rfl _ _ go 24 _ (0, 0) _ rfl (spec_l01Src_l03Route.fin S.out.bo _ _ _ _ _ _ _) Try.underlying24 rfl (by kernel_rfl)) rfl ⟨rfl, S.out.end_ _ _ _ _ _ _ _⟩
    ·skip
     clear zz0 zz1
     simp only [Option.some.injEq, Prod.mk.injEq] at h
     obtain ⟨rfl, rfl, rfl, rfl, rfl, rfl, rfl, rfl, rfl, rfl⟩ := h
     obtain ⟨c0, c1, c2, c3, c4, c5, c6, f0, f1, f2, f3, f4, f5, f6, o0, o1, o2, o3, o4, o5, o6, q0, q1, q2, q3, q4, q5, q6⟩ := S.out.facts
     go_upto_region 17 with (fail)
     refine spec_l01Src_l03Route.gen (fun W => spec_l01Src_l03Route.ST w0 w W g gr go s0_0 _ _ _ _) (S.out.set 5 _) ?_
     clear c0 c1 c2 c3 c4 c5 c6 f0 f1 f2 f3 f4 f5 f6 o0 o1 o2 o3 o4 o5 o6 q0 q1 q2 q3 q4 q5 q6
     clear S
     intro W_ h_
     have S := Aside0.mk h_
     clear h_
     obtain ⟨c0, c1, c2, c3, c4, c5, c6, f0, f1, f2, f3, f4, f5, f6, o0, o1, o2, o3, o4, o5, o6, q0, q1, q2, q3, q4, q5, q6⟩ := S.out.facts
     go_wp2_with fail
     refine bodyPost_ret (results_cell_row rfl _ _ go 24 _ (0, 0) _ rfl (spec_l01Src_l03Route.fin S.out.bo _ _ _ _ _ _ _) Try.underlying24 rfl (by kernel_rfl)) rfl ⟨rfl, S.out.end_ _ _ _ _ _ _ _⟩
    ·skip
     clear zz0 zz1
     simp only [Option.some.injEq, Prod.mk.injEq] at h
     obtain ⟨rfl, rfl, rfl, rfl, rfl, rfl, rfl, rfl, rfl, rfl⟩ := h
     obtain ⟨c0, c1, c2, c3, c4, c5, c6, f0, f1, f2, f3, f4, f5, f6, o0, o1, o2, o3, o4, o5, o6, q0, q1, q2, q3, q4, q5, q6⟩ := S.out.facts
     go_upto_region 17 with (fail)
     refine spec_l01Src_l03Route.gen (fun W => spec_l01Src_l03Route.ST w0 w W g gr go s0_0 _ _ _ _) (S.out.set 5 _) ?_
     clear c0 c1 c2 c3 c4 c5 c6 f0 f1 f2 f3 f4 f5 f6 o0 o1 o2 o3 o4 o5 o6 q0 q1 q2 q3 q4 q5 q6
     clear S
     intro W_ h_
     have S := Aside0.mk h_
     clear h_
     obtain ⟨c0, c1, c2, c3, c4, c5, c6, f0, f1, f2, f3, f4, f5, f6, o0, o1, o2, o3, o4, o5, o6, q0, q1, q2, q3, q4, q5, q6⟩ := S.out.facts
     go_wp2_with fail
     refine bodyPost_ret (results_cell_row rfl _ _ go 24 _ (0, 0) _ rfl (spec_l01Src_l03Route.fin S.out.bo _ _ _ _ _ _ _) Try.underlying24 rfl (by kernel_rfl)) rfl ⟨rfl, S.out.end_ _ _ _ _ _ _ _⟩
   rw [if_neg q4_] at h
   have b4 : (z6 == 4) = false := beq_eq_false_iff_ne.mpr q4_
   replace h := Option.bind_eq_some_iff.mp h
   obtain ⟨⟨z, z1, z2, z3⟩, q, h⟩ := h
   have Q := Aside0.mk q
   clear q
   have H := Aside0.mk h
   clear h
   go_wp2_with fail
   go_at_call 118
   with_reducible refine (spec_l01Src_l02IpOf.calls g s0_0 _ _ _ _ _ _ _ w0 _ S.out.st S.out.bl Q.out).mono ?_
   rintro e w_ ⟨rfl, hI, hB, hK⟩
   replace S := Aside0.mk (S.out.call hI hB hK)
   clear Q hI hB hK
   have h := H.out
   clear H
   (try dsimp only at h)
   simp only [Option.some.injEq, Prod.mk.injEq] at h
   obtain ⟨rfl, rfl, rfl, rfl, rfl, rfl, rfl, rfl, rfl, rfl⟩ := h
   obtain ⟨c0, c1, c2, c3, c4, c5, c6, f0, f1, f2, f3, f4, f5, f6, o0, o1, o2, o3, o4, o5, o6, q0, q1, q2, q3, q4, q5, q6⟩ := S.out.facts
   go_upto_region 17 with (fail)
   refine spec_l01Src_l03Route.gen (fun W => spec_l01Src_l03Route.ST w0 w W g gr go s0_0 _ _ _ _) (S.out.set 3 _) ?_
   clear c0 c1 c2 c3 c4 c5 c6 f0 f1 f2 f3 f4 f5 f6 o0 o1 o2 o3 o4 o5 o6 q0 q1 q2 q3 q4 q5 q6
   clear S
   intro W_ h_
   have S := Aside0.mk h_
   clear h_
   obtain ⟨c0, c1, c2, c3, c4, c5, c6, f0, f1, f2, f3, f4, f5, f6, o0, o1, o2, o3, o4, o5, o6, q0, q1, q2, q3, q4, q5, q6⟩ := S.out.facts
   go_wp2_with fail
   refine bodyPost_ret (results_cell_row rfl _ _ go 24 _ (0, 0) _ rfl (spec_l01Src_l03Route.fin S.out.bo _ _ _ _ _ _ _) Try.underlying24 rfl (by kernel_rfl)) rfl ⟨rfl, S.out.end_ _ _ _ _ _ _ _⟩
  | false =>
   rw [if_neg (by decide)] at h
   simp only [Option.some.injEq, Prod.mk.injEq] at h
   obtain ⟨rfl, rfl, rfl, rfl, rfl, rfl, rfl, rfl, rfl, rfl⟩ := h
   obtain ⟨c0, c1, c2, c3, c4, c5, c6, f0, f1, f2, f3, f4, f5, f6, o0, o1, o2, o3, o4, o5, o6, q0, q1, q2, q3, q4, q5, q6⟩ := S.out.facts
   go_wp2_with fail
   refine bodyPost_ret (results_cell_row rfl _ _ go 24 _ (0, 0) _ rfl (spec_l01Src_l03Route.fin S.out.bo _ _ _ _ _ _ _) Try.underlying24 rfl (by kernel_rfl)) rfl ⟨rfl, S.out.end_ _ _ _ _ _ _ _⟩
 | false =>
  rw [if_neg (by decide)] at h
  go_upto_region 4 with (fail)
  refine spec_l01Src_l03Route.gen (fun W => spec_l01Src_l03Route.ST w0 w W g gr go s0_0 _ _ _ _) (S.out) ?_
  clear S
  intro W_ h_
  have S := Aside0.mk h_
  clear h_
  rcases k with _ | k
  ·rw [spec_l01Src_l03Route.j0] at h; cases h
  rw [spec_l01Src_l03Route.j0] at h
  replace h := Option.bind_eq_some_iff.mp h
  obtain ⟨⟨z15, i15, m15, u15⟩, q, h⟩ := h
  have Q := Aside0.mk q
  clear q
  have H := Aside0.mk h
  clear h
  go_wp2_with fail
  go_at_call 69
  with_reducible refine (spec_l01Src_one.calls g s0_0 _ _ _ 15 _ _ _ _ w0 _ S.out.st S.out.bl Q.out).mono ?_
  rintro e w_ ⟨rfl, hI, hB, hK⟩
  replace S := Aside0.mk (S.out.call hI hB hK)
  clear Q hI hB hK
  have h := H.out
  clear H
  (try dsimp only at h)
  cases z15 with
  | true =>
   rw [if_pos rfl] at h
   replace h := Option.bind_eq_some_iff.mp h
   obtain ⟨⟨z6, i6, m6, u6⟩, q, h⟩ := h
   have Q := Aside0.mk q
   clear q
   have H := Aside0.mk h
   clear h
   go_wp2_with fail
   go_at_call 65
   with_reducible refine (spec_l01Src_n.calls g s0_0 _ _ _ 6 _ _ _ _ w0 _ S.out.st S.out.bl Q.out).mono ?_
   rintro e w_ ⟨rfl, hI, hB, hK⟩
   replace S := Aside0.mk (S.out.call hI hB hK)
   clear Q hI hB hK
   have h := H.out
   clear H
   (try dsimp only at h)
   by_cases q0_ : z6 = 0
   ·rw [if_pos q0_] at h
    have b0 : (z6 == 0) = true := beq_iff_eq.mpr q0_
    replace h := Option.bind_eq_some_iff.mp h
    obtain ⟨⟨z, z1, z2, z3⟩, q, h⟩ := h
    have Q := Aside0.mk q
    clear q
    have H := Aside0.mk h
    clear h
    go_wp2_with fail
    go_at_call 65
    with_reducible refine (spec_l01Src_n.calls g s0_0 _ _ _ 4 _ _ _ _ w0 _ S.out.st S.out.bl Q.out).mono ?_
    rintro e w_ ⟨rfl, hI, hB, hK⟩
    replace S := Aside0.mk (S.out.call hI hB hK)
    clear Q hI hB hK
    have h := H.out
    clear H
    (try dsimp only at h)
    simp only [Option.some.injEq, Prod.mk.injEq] at h
    obtain ⟨rfl, rfl, rfl, rfl, rfl, rfl, rfl, rfl, rfl, rfl⟩ := h
    obtain ⟨c0, c1, c2, c3, c4, c5, c6, f0, f1, f2, f3, f4, f5, f6, o0, o1, o2, o3, o4, o5, o6, q0, q1, q2, q3, q4, q5, q6⟩ := S.out.facts
    go_upto_region 17 with (fail)
    refine spec_l01Src_l03Route.gen (fun W => spec_l01Src_l03Route.ST w0 w W g gr go s0_0 _ _ _ _) (S.out.set 0 _) ?_
    clear c0 c1 c2 c3 c4 c5 c6 f0 f1 f2 f3 f4 f5 f6 o0 o1 o2 o3 o4 o5 o6 q0 q1 q2 q3 q4 q5 q6
    clear S
    intro W_ h_
    have S := Aside0.mk h_
    clear h_
    obtain ⟨c0, c1, c2, c3, c4, c5, c6, f0, f1, f2, f3, f4, f5, f6, o0, o1, o2, o3, o4, o5, o6, q0, q1, q2, q3, q4, q5, q6⟩ := S.out.facts
    go_wp2_with fail
    refine bodyPost_ret (results_cell_row rfl _ _ go 24 _ (0, 0) _ rfl (spec_l01Src_l03Route.fin S.out.bo _ _ _ _ _ _ _) Try.underlying24 rfl (by kernel_rfl)) rfl ⟨rfl, S.out.end_ _ _ _ _ _ _ _⟩
   rw [if_neg q0_] at h
   have b0 : (z6 == 0) = false := beq_eq_false_iff_ne.mpr q0_
   by_cases q1_ : z6 = 1
   ·rw [if_pos q1_] at h
    have b1 : (z6 == 1) = true := beq_iff_eq.mpr q1_
    replace h := Option.bind_eq_some_iff.mp h
    obtain ⟨⟨z, z1, z2, z3⟩, q, h⟩ := h
    have Q := Aside0.mk q
    clear q
    have H := Aside0.mk h
    clear h
    go_wp2_with fail
    go_at_call 116
    with_reducible refine (spec_l01Src_l02VniOf.calls g s0_0 _ _ _ _ _ _ _ w0 _ S.out.st S.out.bl Q.out).mono ?_
    rintro e w_ ⟨rfl, hI, hB, hK⟩
    replace S := Aside0.mk (S.out.call hI hB hK)
    clear Q hI hB hK
    have h := H.out
    clear H
    (try dsimp only at h)
    simp only [Option.some.injEq, Prod.mk.injEq] at h
    obtain ⟨rfl, rfl, rfl, rfl, rfl, rfl, rfl, rfl, rfl, rfl⟩ := h
    obtain ⟨c0, c1, c2, c3, c4, c5, c6, f0, f1, f2, f3, f4, f5, f6, o0, o1, o2, o3, o4, o5, o6, q0, q1, q2, q3, q4, q5, q6⟩ := S.out.facts
    go_upto_region 17 with (fail)
    refine spec_l01Src_l03Route.gen (fun W => spec_l01Src_l03Route.ST w0 w W g gr go s0_0 _ _ _ _) (S.out.set 1 _) ?_
    clear c0 c1 c2 c3 c4 c5 c6 f0 f1 f2 f3 f4 f5 f6 o0 o1 o2 o3 o4 o5 o6 q0 q1 q2 q3 q4 q5 q6
    clear S
    intro W_ h_
    have S := Aside0.mk h_
    clear h_
    obtain ⟨c0, c1, c2, c3, c4, c5, c6, f0, f1, f2, f3, f4, f5, f6, o0, o1, o2, o3, o4, o5, o6, q0, q1, q2, q3, q4, q5, q6⟩ := S.out.facts
    go_wp2_with fail
    refine bodyPost_ret (results_cell_row rfl _ _ go 24 _ (0, 0) _ rfl (spec_l01Src_l03Route.fin S.out.bo _ _ _ _ _ _ _) Try.underlying24 rfl (by kernel_rfl)) rfl ⟨rfl, S.out.end_ _ _ _ _ _ _ _⟩
   rw [if_neg q1_] at h
   have b1 : (z6 == 1) = false := beq_eq_false_iff_ne.mpr q1_
   by_cases q2_ : z6 = 2
   ·rw [if_pos q2_] at h
    have b2 : (z6 == 2) = true := beq_iff_eq.mpr q2_
    replace h := Option.bind_eq_some_iff.mp h
    obtain ⟨⟨z, z1, z2, z3⟩, q, h⟩ := h
    have Q := Aside0.mk q
    clear q
    have H := Aside0.mk h
    clear h
    go_wp2_with fail
    go_at_call 117
    with_reducible refine (spec_l01Src_l02MacOf.calls g s0_0 _ _ _ _ _ _ _ w0 _ S.out.st S.out.bl Q.out).mono ?_
    rintro e w_ ⟨rfl, hI, hB, hK⟩
    replace S := Aside0.mk (S.out.call hI hB hK)
    clear Q hI hB hK
    have h := H.out
    clear H
    (try dsimp only at h)
    simp only [Option.some.injEq, Prod.mk.injEq] at h
    obtain ⟨rfl, rfl, rfl, rfl, rfl, rfl, rfl, rfl, rfl, rfl⟩ := h
    obtain ⟨c0, c1, c2, c3, c4, c5, c6, f0, f1, f2, f3, f4, f5, f6, o0, o1, o2, o3, o4, o5, o6, q0, q1, q2, q3, q4, q5, q6⟩ := S.out.facts
    go_upto_region 17 with (fail)
    refine spec_l01Src_l03Route.gen (fun W => spec_l01Src_l03Route.ST w0 w W g gr go s0_0 _ _ _ _) (S.out.set 2 _) ?_
    clear c0 c1 c2 c3 c4 c5 c6 f0 f1 f2 f3 f4 f5 f6 o0 o1 o2 o3 o4 o5 o6 q0 q1 q2 q3 q4 q5 q6
    clear S
    intro W_ h_
    have S := Aside0.mk h_
    clear h_
    obtain ⟨c0, c1, c2, c3, c4, c5, c6, f0, f1, f2, f3, f4, f5, f6, o0, o1, o2, o3, o4, o5, o6, q0, q1, q2, q3, q4, q5, q6⟩ := S.out.facts
    go_wp2_with fail
    refine bodyPost_ret (results_cell_row rfl _ _ go 24 _ (0, 0) _ rfl (spec_l01Src_l03Route.fin S.out.bo _ _ _ _ _ _ _) Try.underlying24 rfl (by kernel_rfl)) rfl ⟨rfl, S.out.end_ _ _ _ _ _ _ _⟩
   rw [if_neg q2_] at h
   have b2 : (z6 == 2) = false := beq_eq_false_iff_ne.mpr q2_
   by_cases q3_ : z6 = 3
   ·rw [if_pos q3_] at h
    have b3 : (z6 == 3) = true := beq_iff_eq.mpr q3_
    replace h := Option.bind_eq_some_iff.mp h
    obtain ⟨y_, hy_, h⟩ := h
    obtain rfl := Option.some.inj hy_
    clear hy_
    replace h := Option.bind_eq_some_iff.mp h
    obtain ⟨⟨z, z1, z2, z3⟩, q, h⟩ := h
    have Q := Aside0.mk q
    clear q
    have H := Aside0.mk h
    clear h
    go_wp2_with fail
    have LB := Aside0.mk (blk_new w_ (Obj.cells #[.int .i64 0, .int .i64 4, .int .i64 5] 2))
    replace S := Aside0.mk (S.out.alloc (Obj.cells #[.int .i64 0, .int .i64 4, .int .i64 5] 2))
    obtain ⟨gl, hgl⟩ : ∃ gl, gl = w_.heap.size := ⟨_, rfl⟩
    rw [← hgl] at LB ⊢
    clear hgl
    go_at_call 65
    with_reducible refine (spec_l01Src_n.calls g s0_0 _ _ _ 3 _ _ _ _ w0 _ S.out.st S.out.bl Q.out).mono ?_
    rintro e w_ ⟨rfl, hI, hB, hK⟩
    replace LB := Aside0.mk (hK.blk LB.out (Ne.symm (S.out.st.ne_blk LB.out (by decide))) (by simp))
    replace S := Aside0.mk (S.out.call hI hB hK)
    clear Q hI hB hK
    have h := H.out
    clear H
    (try dsimp only at h)
    have l0_ := (blk_cell LB.out 0).trans rfl
    have l1_ := (blk_cell LB.out 1).trans rfl
    have l2_ := (blk_cell LB.out 2).trans rfl
    by_cases zz0 : 0 ≤ z
    rotate_left
    ·rw [if_neg zz0] at h; cases h
    rw [if_pos zz0] at h
    by_cases zz1 : z < 3
    rotate_left
    ·rw [if_neg (by simpa using zz1)] at h; cases h
    rw [if_pos (by simpa using zz1)] at h
    obtain rfl | rfl | rfl : z = 0 ∨ z = 1 ∨ z = 2 := by omega
    ·skip
     clear zz0 zz1
     simp only [Option.some.injEq, Prod.mk.injEq] at h
     obtain ⟨rfl, rfl, rfl, rfl, rfl, rfl, rfl, rfl, rfl, rfl⟩ := h
     obtain ⟨c0, c1, c2, c3, c4, c5, c6, f0, f1, f2, f3, f4, f5, f6, o0, o1, o2, o3, o4, o5, o6, q0, q1, q2, q3, q4, q5, q6⟩ := S.out.facts
     go_upto_region 17 with (fail)
     refine spec_l01Src_l03Route.gen (fun W => spec_l01Src_l03Route.ST w0 w W g gr go s0_0 _ _ _ _) (S.out.set 4 _) ?_
     clear c0 c1 c2 c3 c4 c5 c6 f0 f1 f2 f3 f4 f5 f6 o0 o1 o2 o3 o4 o5 o6 q0 q1 q2 q3 q4 q5 q6
     clear S
     intro W_ h_
     have S := Aside0.mk h_
     clear h_
     obtain ⟨c0, c1, c2, c3, c4, c5, c6, f0, f1, f2, f3, f4, f5, f6, o0, o1, o2, o3, o4, o5, o6, q0, q1, q2, q3, q4, q5, q6⟩ := S.out.facts
     go_wp2_with fail
     refine bodyPost_ret (results_cell_row rfl _ _ go 24 _ (0, 0) _ rfl (spec_l01Src_l03Route.fin S.out.bo _ _ _ _ _ _ _) Try.underlying24 rfl (by kernel_rfl)) rfl ⟨rfl, S.out.end_ _ _ _ _ _ _ _⟩
    ·skip
     clear zz0 zz1
     simp only [Option.some.injEq, Prod.mk.injEq] at h
     obtain ⟨rfl, rfl, rfl, rfl, rfl, rfl, rfl, rfl, rfl, rfl⟩ := h
     obtain ⟨c0, c1, c2, c3, c4, c5, c6, f0, f1, f2, f3, f4, f5, f6, o0, o1, o2, o3, o4, o5, o6, q0, q1, q2, q3, q4, q5, q6⟩ := S.out.facts
     go_upto_region 17 with (fail)
     refine spec_l01Src_l03Route.gen (fun W => spec_l01Src_l03Route.ST w0 w W g gr go s0_0 _ _ _ _) (S.out.set 4 _) ?_
     clear c0 c1 c2 c3 c4 c5 c6 f0 f1 f2 f3 f4 f5 f6 o0 o1 o2 o3 o4 o5 o6 q0 q1 q2 q3 q4 q5 q6
     clear S
     intro W_ h_
     have S := Aside0.mk h_
     clear h_
     obtain ⟨c0, c1, c2, c3, c4, c5, c6, f0, f1, f2, f3, f4, f5, f6, o0, o1, o2, o3, o4, o5, o6, q0, q1, q2, q3, q4, q5, q6⟩ := S.out.facts
     go_wp2_with fail
     refine bodyPost_ret (results_cell_row rfl _ _ go 24 _ (0, 0) _ rfl (spec_l01Src_l03Route.fin S.out.bo _ _ _ _ _ _ _) Try.underlying24 rfl (by kernel_rfl)) rfl ⟨rfl, S.out.end_ _ _ _ _ _ _ _⟩
    ·skip
     clear zz0 zz1
     simp only [Option.some.injEq, Prod.mk.injEq] at h
     obtain ⟨rfl, rfl, rfl, rfl, rfl, rfl, rfl, rfl, rfl, rfl⟩ := h
     obtain ⟨c0, c1, c2, c3, c4, c5, c6, f0, f1, f2, f3, f4, f5, f6, o0, o1, o2, o3, o4, o5, o6, q0, q1, q2, q3, q4, q5, q6⟩ := S.out.facts
     go_upto_region 17 with (fail)
     refine spec_l01Src_l03Route.gen (fun W => spec_l01Src_l03Route.ST w0 w W g gr go s0_0 _ _ _ _) (S.out.set 4 _) ?_
     clear c0 c1 c2 c3 c4 c5 c6 f0 f1 f2 f3 f4 f5 f6 o0 o1 o2 o3 o4 o5 o6 q0 q1 q2 q3 q4 q5 q6
     clear S
     intro W_ h_
     have S := Aside0.mk h_
     clear h_
     obtain ⟨c0, c1, c2, c3, c4, c5, c6, f0, f1, f2, f3, f4, f5, f6, o0, o1, o2, o3, o4, o5, o6, q0, q1, q2, q3, q4, q5, q6⟩ := S.out.facts
     go_wp2_with fail
     refine bodyPost_ret (results_cell_row rfl _ _ go 24 _ (0, 0) _ rfl (spec_l01Src_l03Route.fin S.out.bo _ _ _ _ _ _ _) Try.underlying24 rfl (by kernel_rfl)) rfl ⟨rfl, S.out.end_ _ _ _ _ _ _ _⟩
   rw [if_neg q3_] at h
   have b3 : (z6 == 3) = false := beq_eq_false_iff_ne.mpr q3_
   by_cases q4_ : z6 = 4
   ·rw [if_pos q4_] at h
    have b4 : (z6 == 4) = true := beq_iff_eq.mpr q4_
    replace h := Option.bind_eq_some_iff.mp h
    obtain ⟨y_, hy_, h⟩ := h
    obtain rfl := Option.some.inj hy_
    clear hy_
    replace h := Option.bind_eq_some_iff.mp h
    obtain ⟨⟨z, z1, z2, z3⟩, q, h⟩ := h
    have Q := Aside0.mk q
    clear q
    have H := Aside0.mk h
    clear h
    go_wp2_with fail
    have LB := Aside0.mk (blk_new w_ (Obj.cells #[.int .i64 (-1), .int .i64 1000000, .int .i64 1000001] 2))
    replace S := Aside0.mk (S.out.alloc (Obj.cells #[.int .i64 (-1), .int .i64 1000000, .int .i64 1000001] 2))
    obtain ⟨gl, hgl⟩ : ∃ gl, gl = w_.heap.size := ⟨_, rfl⟩
    rw [← hgl] at LB ⊢
    clear hgl
    go_at_call 65
    with_reducible refine (spec_l01Src_n.calls g s0_0 _ _ _ 3 _ _ _ _ w0 _ S.out.st S.out.bl Q.out).mono ?_
    rintro e w_ ⟨rfl, hI, hB, hK⟩
    replace LB := Aside0.mk (hK.blk LB.out (Ne.symm (S.out.st.ne_blk LB.out (by decide))) (by simp))
    replace S := Aside0.mk (S.out.call hI hB hK)
    clear Q hI hB hK
    have h := H.out
    clear H
    (try dsimp only at h)
    have l0_ := (blk_cell LB.out 0).trans rfl
    have l1_ := (blk_cell LB.out 1).trans rfl
    have l2_ := (blk_cell LB.out 2).trans rfl
    by_cases zz0 : 0 ≤ z
    rotate_left
    ·rw [if_neg zz0] at h; cases h
    rw [if_pos zz0] at h
    by_cases zz1 : z < 3
    rotate_left
    ·rw [if_neg (by simpa using zz1)] at h; cases h
    rw [if_pos (by simpa using zz1)] at h
    obtain rfl | rfl | rfl : z = 0 ∨ z = 1 ∨ z = 2 := by omega
    ·skip
     clear zz0 zz1
     simp only [Option.some.injEq, Prod.mk.injEq] at h
     obtain ⟨rfl, rfl, rfl, rfl, rfl, rfl, rfl, rfl, rfl, rfl⟩ := h
     obtain ⟨c0, c1, c2, c3, c4, c5, c6, f0, f1, f2, f3, f4, f5, f6, o0, o1, o2, o3, o4, o5, o6, q0, q1, q2, q3, q4, q5, q6⟩ := S.out.facts
     go_upto_region 17 with (fail)
     refine spec_l01Src_l03Route.gen (fun W => spec_l01Src_l03Route.ST w0 w W g gr go s0_0 _ _ _ _) (S.out.set 5 _) ?_
     clear c0 c1 c2 c3 c4 c5 c6 f0 f1 f2 f3 f4 f5 f6 o0 o1 o2 o3 o4 o5 o6 q0 q1 q2 q3 q4 q5 q6
     clear S
     intro W_ h_
     have S := Aside0.mk h_
     clear h_
     obtain ⟨c0, c1, c2, c3, c4, c5, c6, f0, f1, f2, f3, f4, f5, f6, o0, o1, o2, o3, o4, o5, o6, q0, q1, q2, q3, q4, q5, q6⟩ := S.out.facts
     go_wp2_with fail
     refine bodyPost_ret (results_cell_row rfl _ _ go 24 _ (0, 0) _ rfl (spec_l01Src_l03Route.fin S.out.bo _ _ _ _ _ _ _) Try.underlying24 rfl (by kernel_rfl)) rfl ⟨rfl, S.out.end_ _ _ _ _ _ _ _⟩
    ·skip
     clear zz0 zz1
     simp only [Option.some.injEq, Prod.mk.injEq] at h
     obtain ⟨rfl, rfl, rfl, rfl, rfl, rfl, rfl, rfl, rfl, rfl⟩ := h
     obtain ⟨c0, c1, c2, c3, c4, c5, c6, f0, f1, f2, f3, f4, f5, f6, o0, o1, o2, o3, o4, o5, o6, q0, q1, q2, q3, q4, q5, q6⟩ := S.out.facts
     go_upto_region 17 with (fail)
     refine spec_l01Src_l03Route.gen (fun W => spec_l01Src_l03Route.ST w0 w W g gr go s0_0 _ _ _ _) (S.out.set 5 _) ?_
     clear c0 c1 c2 c3 c4 c5 c6 f0 f1 f2 f3 f4 f5 f6 o0 o1 o2 o3 o4 o5 o6 q0 q1 q2 q3 q4 q5 q6
     clear S
     intro W_ h_
     have S := Aside0.mk h_
     clear h_
     obtain ⟨c0, c1, c2, c3, c4, c5, c6, f0, f1, f2, f3, f4, f5, f6, o0, o1, o2, o3, o4, o5, o6, q0, q1, q2, q3, q4, q5, q6⟩ := S.out.facts
     go_wp2_with fail
     refine bodyPost_ret (results_cell_row rfl _ _ go 24 _ (0, 0) _ rfl (spec_l01Src_l03Route.fin S.out.bo _ _ _ _ _ _ _) Try.underlying24 rfl (by kernel_rfl)) rfl ⟨rfl, S.out.end_ _ _ _ _ _ _ _⟩
    ·skip
     clear zz0 zz1
     simp only [Option.some.injEq, Prod.mk.injEq] at h
     obtain ⟨rfl, rfl, rfl, rfl, rfl, rfl, rfl, rfl, rfl, rfl⟩ := h
     obtain ⟨c0, c1, c2, c3, c4, c5, c6, f0, f1, f2, f3, f4, f5, f6, o0, o1, o2, o3, o4, o5, o6, q0, q1, q2, q3, q4, q5, q6⟩ := S.out.facts
     go_upto_region 17 with (fail)
     refine spec_l01Src_l03Route.gen (fun W => spec_l01Src_l03Route.ST w0 w W g gr go s0_0 _ _ _ _) (S.out.set 5 _) ?_
     clear c0 c1 c2 c3 c4 c5 c6 f0 f1 f2 f3 f4 f5 f6 o0 o1 o2 o3 o4 o5 o6 q0 q1 q2 q3 q4 q5 q6
     clear S
     intro W_ h_
     have S := Aside0.mk h_
     clear h_
     obtain ⟨c0, c1, c2, c3, c4, c5, c6, f0, f1, f2, f3, f4, f5, f6, o0, o1, o2, o3, o4, o5, o6, q0, q1, q2, q3, q4, q5, q6⟩ := S.out.facts
     go_wp2_with fail
     refine bodyPost_ret (results_cell_row rfl _ _ go 24 _ (0, 0) _ rfl (spec_l01Src_l03Route.fin S.out.bo _ _ _ _ _ _ _) Try.underlying24 rfl (by kernel_rfl)) rfl ⟨rfl, S.out.end_ _ _ _ _ _ _ _⟩
   rw [if_neg q4_] at h
   have b4 : (z6 == 4) = false := beq_eq_false_iff_ne.mpr q4_
   replace h := Option.bind_eq_some_iff.mp h
   obtain ⟨⟨z, z1, z2, z3⟩, q, h⟩ := h
   have Q := Aside0.mk q
   clear q
   have H := Aside0.mk h
   clear h
   go_wp2_with fail
   go_at_call 118
   with_reducible refine (spec_l01Src_l02IpOf.calls g s0_0 _ _ _ _ _ _ _ w0 _ S.out.st S.out.bl Q.out).mono ?_
   rintro e w_ ⟨rfl, hI, hB, hK⟩
   replace S := Aside0.mk (S.out.call hI hB hK)
   clear Q hI hB hK
   have h := H.out
   clear H
   (try dsimp only at h)
   simp only [Option.some.injEq, Prod.mk.injEq] at h
   obtain ⟨rfl, rfl, rfl, rfl, rfl, rfl, rfl, rfl, rfl, rfl⟩ := h
   obtain ⟨c0, c1, c2, c3, c4, c5, c6, f0, f1, f2, f3, f4, f5, f6, o0, o1, o2, o3, o4, o5, o6, q0, q1, q2, q3, q4, q5, q6⟩ := S.out.facts
   go_upto_region 17 with (fail)
   refine spec_l01Src_l03Route.gen (fun W => spec_l01Src_l03Route.ST w0 w W g gr go s0_0 _ _ _ _) (S.out.set 3 _) ?_
   clear c0 c1 c2 c3 c4 c5 c6 f0 f1 f2 f3 f4 f5 f6 o0 o1 o2 o3 o4 o5 o6 q0 q1 q2 q3 q4 q5 q6
   clear S
   intro W_ h_
   have S := Aside0.mk h_
   clear h_
   obtain ⟨c0, c1, c2, c3, c4, c5, c6, f0, f1, f2, f3, f4, f5, f6, o0, o1, o2, o3, o4, o5, o6, q0, q1, q2, q3, q4, q5, q6⟩ := S.out.facts
   go_wp2_with fail
   refine bodyPost_ret (results_cell_row rfl _ _ go 24 _ (0, 0) _ rfl (spec_l01Src_l03Route.fin S.out.bo _ _ _ _ _ _ _) Try.underlying24 rfl (by kernel_rfl)) rfl ⟨rfl, S.out.end_ _ _ _ _ _ _ _⟩
  | false =>
   rw [if_neg (by decide)] at h
   simp only [Option.some.injEq, Prod.mk.injEq] at h
   obtain ⟨rfl, rfl, rfl, rfl, rfl, rfl, rfl, rfl, rfl, rfl⟩ := h
   obtain ⟨c0, c1, c2, c3, c4, c5, c6, f0, f1, f2, f3, f4, f5, f6, o0, o1, o2, o3, o4, o5, o6, q0, q1, q2, q3, q4, q5, q6⟩ := S.out.facts
   go_wp2_with fail
   refine bodyPost_ret (results_cell_row rfl _ _ go 24 _ (0, 0) _ rfl (spec_l01Src_l03Route.fin S.out.bo _ _ _ _ _ _ _) Try.underlying24 rfl (by kernel_rfl)) rfl ⟨rfl, S.out.end_ _ _ _ _ _ _ _⟩
end Go.Proofs.Ytbanbmkfdkbfiaa.PFnNote
