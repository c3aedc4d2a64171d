import Derived.Test.YtbanbmkfdkbfiaaPFnNotex0
import Derived.Test.YtbanbmkfdkbfiaaPFnNotex4
import Derived.Test.YtbanbmkfdkbfiaaPFnNotex5
namespace Go.Proofs.Ytbanbmkfdkbfiaa.PFnNote
open Go.RowKit Go.Proofs.YtbanbmkfdkbfiaaW.PrintWords Go.Proofs.YtbanbmkfdkbfiaaW.PrintLast Go.Proofs.YtbanbmkfdkbfiaaW.PrintMore
attribute [local go_sem] max2_int min2_int max_two min_two max_three min_three max_four min_four
set_option linter.unusedVariables false
set_option linter.unusedSimpArgs false
def spec_l01Src_l04Note.j0 : Nat → List Int → Int → Int → Int → Int → Int → Int → Int → Int → Int → Int → Bool → Option (Int × Int × Int × Int × Int × Int × Int × Bool × Int × Int × Int)
 | 0, _, _, _, _, _, _, _, _, _, _, _, _ => none
 | k + 1, x1000, x1001, x1002, x1003, x241000, x241001, x241002, x241003, x241004, x241005, x241006, x241007 => (spec_l01Src_one.f x1000 x1001 x1002 x1003 12).bind fun bt268 => (if bt268.1 = true then ((spec_l01Src_n.f x1000 bt268.2.1 bt268.2.2.1 bt268.2.2.2 5).bind fun bt272 => (some (bt272.1, x241001, x241002, x241003, x241004, x241005, x241006, x241007, bt272.2.1, bt272.2.2.1, bt272.2.2.2))) else (some (x241000, x241001, x241002, x241003, x241004, x241005, x241006, x241007, bt268.2.1, bt268.2.2.1, bt268.2.2.2)))
def spec_l01Src_l04Note.f (k : Nat) (s0_0 : List Int) (s0_1 : Int) (s0_2 : Int) (s0_3 : Int) : Option (Int × Int × Int × Int × Int × Int × Int × Bool × Int × Int × Int) := (spec_l01Src_n.f s0_0 s0_1 s0_2 s0_3 3).bind fun bt236 => (if (wrap64 (1 + bt236.1)) = 1 then ((spec_l01Src_l03Route.f k s0_0 bt236.2.1 bt236.2.2.1 bt236.2.2.2).bind fun bt241 => (spec_l01Src_l04Note.j0 k s0_0 bt241.2.2.2.2.2.2.2.1 bt241.2.2.2.2.2.2.2.2.1 bt241.2.2.2.2.2.2.2.2.2 (wrap64 (1 + bt236.1)) bt241.1 bt241.2.1 bt241.2.2.1 bt241.2.2.2.1 bt241.2.2.2.2.1 bt241.2.2.2.2.2.1 bt241.2.2.2.2.2.2.1)) else (if (wrap64 (1 + bt236.1)) = 2 then ((spec_l01Src_l03Route.f k s0_0 bt236.2.1 bt236.2.2.1 bt236.2.2.2).bind fun bt251 => ((spec_KeyOf.f bt251.1 bt251.2.1 bt251.2.2.1 bt251.2.2.2.1 bt251.2.2.2.2.1 bt251.2.2.2.2.2.1 bt251.2.2.2.2.2.2.1).bind fun bt261 => (spec_l01Src_l04Note.j0 k s0_0 bt251.2.2.2.2.2.2.2.1 bt251.2.2.2.2.2.2.2.2.1 bt251.2.2.2.2.2.2.2.2.2 (wrap64 (1 + bt236.1)) bt261.1 bt261.2.1 bt261.2.2.1 bt261.2.2.2.1 bt261.2.2.2.2.1 bt261.2.2.2.2.2.1 bt261.2.2.2.2.2.2))) else (spec_l01Src_l04Note.j0 k s0_0 bt236.2.1 bt236.2.2.1 bt236.2.2.2 (wrap64 (1 + bt236.1)) 0 0 0 0 0 0 false)))
structure spec_l01Src_l04Note.ST (w0 w W : World) (g gr go : Nat) (l : List Int) (i m s : Int) (c : Array Value) : Prop where
 st : IsS117 w0 W g l i m s
 br : W.heap[gr]? = some (.cells c 42 (0, 0))
 bo : W.heap[go]? = some (.cells #[.int .i64 0, .int .i64 0, .int .i64 0, .int .i64 0, .int .i64 0, .int .i64 0, .int .i64 0, .bool false] 42 (0, 0))
 bl : Below w0.heap.size w0 W
 kp : KeepBut w W g none
 hr : w.heap.size ≤ gr
 ho : w.heap.size ≤ go
 hw : w0.heap.size ≤ w.heap.size
 ne : gr ≠ go
theorem spec_l01Src_l04Note.ST.call {w0 w W W1 : World} {g gr go : Nat} {l : List Int} {i m s i1 m1 s1 : Int} {c : Array Value} (h : spec_l01Src_l04Note.ST w0 w W g gr go l i m s c) (hI : IsS117 w0 W1 g l i1 m1 s1) (hB : Below w0.heap.size w0 W1) (hK : KeepBut W W1 g none) : spec_l01Src_l04Note.ST w0 w W1 g gr go l i1 m1 s1 c :=
 ⟨hI, hK.blk h.br (Ne.symm (h.st.ne_blk h.br (by decide))) (by simp), hK.blk h.bo (Ne.symm (h.st.ne_blk h.bo (by decide))) (by simp), hB, KeepBut.trans h.kp hK (.inl rfl), h.hr, h.ho, h.hw, h.ne⟩
theorem spec_l01Src_l04Note.ST.set {w0 w W : World} {g gr go : Nat} {l : List Int} {i m s : Int} {c : Array Value} (h : spec_l01Src_l04Note.ST w0 w W g gr go l i m s c) (j : Nat) (u : Value) : spec_l01Src_l04Note.ST w0 w (W.setCell ⟨gr, j, none⟩ u) g gr go l i m s (c.setIfInBounds j u) :=
 ⟨h.st.far (h.st.ne_blk h.br (by decide)) u, blk_set h.br j u, blk_far h.bo (Ne.symm h.ne) u, below_set h.bl (Nat.le_trans h.hw h.hr), keep_far h.kp h.hr u, h.hr, h.ho, h.hw, h.ne⟩
theorem spec_l01Src_l04Note.ST.far {w0 w W W1 : World} {g gr go : Nat} {l : List Int} {i m s : Int} {c : Array Value} (h : spec_l01Src_l04Note.ST w0 w W g gr go l i m s c) (hb : Below W.heap.size W W1) : spec_l01Src_l04Note.ST w0 w W1 g gr go l i m s c :=
 ⟨h.st.below hb, blk_below h.br hb, blk_below h.bo hb, below_step h.bl hb, KeepBut.trans h.kp (KeepBut.of_grown (grown_of_below hb none) g) (.inl rfl), h.hr, h.ho, h.hw, h.ne⟩
theorem spec_l01Src_l04Note.ST.alloc {w0 w W : World} {g gr go : Nat} {l : List Int} {i m s : Int} {c : Array Value} (h : spec_l01Src_l04Note.ST w0 w W g gr go l i m s c) (o : Obj) : spec_l01Src_l04Note.ST w0 w (W.alloc o) g gr go l i m s c :=
 ⟨h.st.alloc o, blk_alloc h.br o, blk_alloc h.bo o, below_alloc h.bl o, keep_alloc h.kp o, h.hr, h.ho, h.hw, h.ne⟩
theorem spec_l01Src_l04Note.ST.facts {w0 w W : World} {g gr go : Nat} {l : List Int} {i m s x0 x1 x2 x3 x4 x5 x6 : Int} {x7 : Bool} (h : spec_l01Src_l04Note.ST w0 w W g gr go l i m s #[.int .i64 x0, .int .i64 x1, .int .i64 x2, .int .i64 x3, .int .i64 x4, .int .i64 x5, .int .i64 x6, .bool x7]) :
  W.cell? ⟨gr, 0, none⟩ = some (.int .i64 x0) ∧ W.cell? ⟨gr, 1, none⟩ = some (.int .i64 x1) ∧ W.cell? ⟨gr, 2, none⟩ = some (.int .i64 x2) ∧ W.cell? ⟨gr, 3, none⟩ = some (.int .i64 x3) ∧ W.cell? ⟨gr, 4, none⟩ = some (.int .i64 x4) ∧ W.cell? ⟨gr, 5, none⟩ = some (.int .i64 x5) ∧ W.cell? ⟨gr, 6, none⟩ = some (.int .i64 x6) ∧ W.cell? ⟨gr, 7, none⟩ = some (.bool x7) ∧ W.frozen? ⟨gr, 0, none⟩ = false ∧ W.frozen? ⟨gr, 1, none⟩ = false ∧ W.frozen? ⟨gr, 2, none⟩ = false ∧ W.frozen? ⟨gr, 3, none⟩ = false ∧ W.frozen? ⟨gr, 4, none⟩ = false ∧ W.frozen? ⟨gr, 5, none⟩ = false ∧ W.frozen? ⟨gr, 6, none⟩ = false ∧ W.frozen? ⟨gr, 7, none⟩ = false ∧ W.cell? ⟨go, 0, none⟩ = some (.int .i64 0) ∧ W.cell? ⟨go, 1, none⟩ = some (.int .i64 0) ∧ W.cell? ⟨go, 2, none⟩ = some (.int .i64 0) ∧ W.cell? ⟨go, 3, none⟩ = some (.int .i64 0) ∧ W.cell? ⟨go, 4, none⟩ = some (.int .i64 0) ∧ W.cell? ⟨go, 5, none⟩ = some (.int .i64 0) ∧ W.cell? ⟨go, 6, none⟩ = some (.int .i64 0) ∧ W.cell? ⟨go, 7, none⟩ = some (.bool false) ∧ W.frozen? ⟨go, 0, none⟩ = false ∧ W.frozen? ⟨go, 1, none⟩ = false ∧ W.frozen? ⟨go, 2, none⟩ = false ∧ W.frozen? ⟨go, 3, none⟩ = false ∧ W.frozen? ⟨go, 4, none⟩ = false ∧ W.frozen? ⟨go, 5, none⟩ = false ∧ W.frozen? ⟨go, 6, none⟩ = false ∧ W.frozen? ⟨go, 7, none⟩ = false := ⟨(blk_cell h.br 0).trans rfl, (blk_cell h.br 1).trans rfl, (blk_cell h.br 2).trans rfl, (blk_cell h.br 3).trans rfl, (blk_cell h.br 4).trans rfl, (blk_cell h.br 5).trans rfl, (blk_cell h.br 6).trans rfl, (blk_cell h.br 7).trans rfl, blk_frozen h.br 0, blk_frozen h.br 1, blk_frozen h.br 2, blk_frozen h.br 3, blk_frozen h.br 4, blk_frozen h.br 5, blk_frozen h.br 6, blk_frozen h.br 7, (blk_cell h.bo 0).trans rfl, (blk_cell h.bo 1).trans rfl, (blk_cell h.bo 2).trans rfl, (blk_cell h.bo 3).trans rfl, (blk_cell h.bo 4).trans rfl, (blk_cell h.bo 5).trans rfl, (blk_cell h.bo 6).trans rfl, (blk_cell h.bo 7).trans rfl, blk_frozen h.bo 0, blk_frozen h.bo 1, blk_frozen h.bo 2, blk_frozen h.bo 3, blk_frozen h.bo 4, blk_frozen h.bo 5, blk_frozen h.bo 6, blk_frozen h.bo 7⟩
theorem spec_l01Src_l04Note.fin {W : World} {g : Nat} {o0 o1 o2 o3 o4 o5 o6 o7 : Value} (h : W.heap[g]? = some (.cells #[o0, o1, o2, o3, o4, o5, o6, o7] 42 (0, 0))) (v0 v1 v2 v3 v4 v5 v6 v7 : Value) : ((((((((W.setCell ⟨g, 0, none⟩ v0).setCell ⟨g, 1, none⟩ v1).setCell ⟨g, 2, none⟩ v2).setCell ⟨g, 3, none⟩ v3).setCell ⟨g, 4, none⟩ v4).setCell ⟨g, 5, none⟩ v5).setCell ⟨g, 6, none⟩ v6).setCell ⟨g, 7, none⟩ v7).heap[g]? = some (.cells #[v0, v1, v2, v3, v4, v5, v6, v7] 42 (0, 0)) := by
 have h0 := blk_set h 0 v0
 have h1 := blk_set h0 1 v1
 have h2 := blk_set h1 2 v2
 have h3 := blk_set h2 3 v3
 have h4 := blk_set h3 4 v4
 have h5 := blk_set h4 5 v5
 have h6 := blk_set h5 6 v6
 have h7 := blk_set h6 7 v7
 simpa using h7
theorem spec_l01Src_l04Note.ST.all {w0 w W : World} {g gr go : Nat} {l : List Int} {i m s : Int} {o0 o1 o2 o3 o4 o5 o6 o7 : Value} (h : spec_l01Src_l04Note.ST w0 w W g gr go l i m s #[o0, o1, o2, o3, o4, o5, o6, o7]) (v1 v2 v3 v4 v5 v6 v7 : Value) : spec_l01Src_l04Note.ST w0 w (((((((W.setCell ⟨gr, 1, none⟩ v1).setCell ⟨gr, 2, none⟩ v2).setCell ⟨gr, 3, none⟩ v3).setCell ⟨gr, 4, none⟩ v4).setCell ⟨gr, 5, none⟩ v5).setCell ⟨gr, 6, none⟩ v6).setCell ⟨gr, 7, none⟩ v7) g gr go l i m s #[o0, v1, v2, v3, v4, v5, v6, v7] := by
 simpa using ((((((h.set 1 v1).set 2 v2).set 3 v3).set 4 v4).set 5 v5).set 6 v6).set 7 v7
theorem spec_l01Src_l04Note.ST.end_ {w0 w W : World} {g gr go : Nat} {l : List Int} {i m s : Int} {c : Array Value} (h : spec_l01Src_l04Note.ST w0 w W g gr go l i m s c) (v0 v1 v2 v3 v4 v5 v6 v7 : Value) : IsS117 w0 ((((((((W.setCell ⟨go, 0, none⟩ v0).setCell ⟨go, 1, none⟩ v1).setCell ⟨go, 2, none⟩ v2).setCell ⟨go, 3, none⟩ v3).setCell ⟨go, 4, none⟩ v4).setCell ⟨go, 5, none⟩ v5).setCell ⟨go, 6, none⟩ v6).setCell ⟨go, 7, none⟩ v7) g l i m s ∧ Below w0.heap.size w0 ((((((((W.setCell ⟨go, 0, none⟩ v0).setCell ⟨go, 1, none⟩ v1).setCell ⟨go, 2, none⟩ v2).setCell ⟨go, 3, none⟩ v3).setCell ⟨go, 4, none⟩ v4).setCell ⟨go, 5, none⟩ v5).setCell ⟨go, 6, none⟩ v6).setCell ⟨go, 7, none⟩ v7) ∧ KeepBut w ((((((((W.setCell ⟨go, 0, none⟩ v0).setCell ⟨go, 1, none⟩ v1).setCell ⟨go, 2, none⟩ v2).setCell ⟨go, 3, none⟩ v3).setCell ⟨go, 4, none⟩ v4).setCell ⟨go, 5, none⟩ v5).setCell ⟨go, 6, none⟩ v6).setCell ⟨go, 7, none⟩ v7) g none :=
 ⟨(IsS117.far (p := ⟨go, 7, none⟩) (IsS117.far (p := ⟨go, 6, none⟩) (IsS117.far (p := ⟨go, 5, none⟩) (IsS117.far (p := ⟨go, 4, none⟩) (IsS117.far (p := ⟨go, 3, none⟩) (IsS117.far (p := ⟨go, 2, none⟩) (IsS117.far (p := ⟨go, 1, none⟩) (IsS117.far (p := ⟨go, 0, none⟩) h.st (h.st.ne_blk h.bo (by decide)) _) (h.st.ne_blk h.bo (by decide)) _) (h.st.ne_blk h.bo (by decide)) _) (h.st.ne_blk h.bo (by decide)) _) (h.st.ne_blk h.bo (by decide)) _) (h.st.ne_blk h.bo (by decide)) _) (h.st.ne_blk h.bo (by decide)) _) (h.st.ne_blk h.bo (by decide)) _), (below_set (below_set (below_set (below_set (below_set (below_set (below_set (below_set h.bl (Nat.le_trans h.hw h.ho)) (Nat.le_trans h.hw h.ho)) (Nat.le_trans h.hw h.ho)) (Nat.le_trans h.hw h.ho)) (Nat.le_trans h.hw h.ho)) (Nat.le_trans h.hw h.ho)) (Nat.le_trans h.hw h.ho)) (Nat.le_trans h.hw h.ho)), (keep_far (p := ⟨go, 7, none⟩) (keep_far (p := ⟨go, 6, none⟩) (keep_far (p := ⟨go, 5, none⟩) (keep_far (p := ⟨go, 4, none⟩) (keep_far (p := ⟨go, 3, none⟩) (keep_far (p := ⟨go, 2, none⟩) (keep_far (p := ⟨go, 1, none⟩) (keep_far (p := ⟨go, 0, none⟩) h.kp h.ho _) h.ho _) h.ho _) h.ho _) h.ho _) h.ho _) h.ho _) h.ho _)⟩
theorem spec_l01Src_l04Note.gen {P : Program} {c : Code} {Q : Exit → Act → World → Prop} {a : Act} {W : World} (p : World → Prop) (h : p W) (k : ∀ W1, p W1 → Code.wp P c Q a W1) : Code.wp P c Q a W := k W h
structure spec_l01Src_l04Note.S0 (w0 w W : World) (g go : Nat) (l : List Int) (i m s : Int) : Prop where
 st : IsS117 w0 W g l i m s
 bo : W.heap[go]? = some (.cells #[.int .i64 0, .int .i64 0, .int .i64 0, .int .i64 0, .int .i64 0, .int .i64 0, .int .i64 0, .bool false] 42 (0, 0))
 bl : Below w0.heap.size w0 W
 kp : KeepBut w W g none
 ho : w.heap.size ≤ go
 hw : w0.heap.size ≤ w.heap.size
theorem spec_l01Src_l04Note.S0.call {w0 w W W1 : World} {g go : Nat} {l : List Int} {i m s i1 m1 s1 : Int} (h : spec_l01Src_l04Note.S0 w0 w W g go l i m s) (hI : IsS117 w0 W1 g l i1 m1 s1) (hB : Below w0.heap.size w0 W1) (hK : KeepBut W W1 g none) : spec_l01Src_l04Note.S0 w0 w W1 g go l i1 m1 s1 :=
 ⟨hI, hK.blk h.bo (Ne.symm (h.st.ne_blk h.bo (by decide))) (by simp), hB, KeepBut.trans h.kp hK (.inl rfl), h.ho, h.hw⟩
theorem spec_l01Src_l04Note.S0.box {w0 w W : World} {g go : Nat} {l : List Int} {i m s : Int} (h : spec_l01Src_l04Note.S0 w0 w W g go l i m s) (c : Array Value) : spec_l01Src_l04Note.ST w0 w (W.alloc (.cells c 42)) g W.heap.size go l i m s c :=
 ⟨h.st.alloc _, blk_new W _, blk_alloc h.bo _, below_alloc h.bl _, keep_alloc h.kp _, h.kp.1, h.ho, h.hw, Ne.symm (Nat.ne_of_lt (blk_lt h.bo))⟩
set_option maxHeartbeats 3200000 in
set_option maxRecDepth 100000 in
theorem spec_l01Src_l04Note.calls (k : Nat) (g : Nat) (s0_0 : List Int) (s0_1 : Int) (s0_2 : Int) (s0_3 : Int) (r1 : Int) (r2 : Int) (r3 : Int) (r4 : Int) (r5 : Int) (r6 : Int) (r7 : Int) (r8 : Bool) (r9 : Int) (r10 : Int) (r11 : Int) (w0 w : World) (hI : IsS117 w0 w g s0_0 s0_1 s0_2 s0_3) (hB : Below w0.heap.size w0 w) (h : spec_l01Src_l04Note.f k s0_0 s0_1 s0_2 s0_3 = some (r1, r2, r3, r4, r5, r6, r7, r8, r9, r10, r11)) :
  Calls Try.prog 84 #[.pointer (some ⟨g, 0, none⟩)] w fun e w' => e = .returned (.agg #[.int .i64 r1, .int .i64 r2, .int .i64 r3, .int .i64 r4, .int .i64 r5, .int .i64 r6, .int .i64 r7, .bool r8]) ∧ IsS117 w0 w' g s0_0 r9 r10 r11 ∧ Below w0.heap.size w0 w' ∧ KeepBut w w' g none := by
 have huR := Try.underlying42
 have huQ := Try.underlying24
 have S := Aside0.mk (⟨hI.alloc _, blk_new w _, below_alloc hB _, keep_alloc (KeepBut.refl w g none) _, Nat.le_refl _, hB.size⟩ : spec_l01Src_l04Note.S0 w0 w (w.alloc (.cells #[.int .i64 0, .int .i64 0, .int .i64 0, .int .i64 0, .int .i64 0, .int .i64 0, .int .i64 0, .bool false] 42)) g w.heap.size s0_0 s0_1 s0_2 s0_3)
 clear hI hB
 unfold spec_l01Src_l04Note.f at h
 go_enter Try.func84, Try.ntmps84
 go_upto_region 1 with (fail)
 obtain ⟨go, hgo⟩ : ∃ go, go = w.heap.size := ⟨_, rfl⟩
 rw [← hgo] at S ⊢
 generalize w.alloc (.cells #[.int .i64 0, .int .i64 0, .int .i64 0, .int .i64 0, .int .i64 0, .int .i64 0, .int .i64 0, .bool false] 42) = W0 at S ⊢
 clear hgo
 replace h := Option.bind_eq_some_iff.mp h
 obtain ⟨⟨z0, i0, m0, u0⟩, q, h⟩ := h
 have Q := Aside0.mk q
 clear q
 have H := Aside0.mk h
 clear h
 go_wp2_with fail
 go_at_call 65
 with_reducible refine (spec_l01Src_n.calls g s0_0 _ _ _ 3 _ _ _ _ w0 _ S.out.st S.out.bl Q.out).mono ?_
 rintro e w_ ⟨rfl, hI, hB, hK⟩
 replace S := Aside0.mk (S.out.call hI hB hK)
 clear Q hI hB hK
 have h := H.out
 clear H
 (try dsimp only at h)
 go_upto_region 2 with (fail)
 have S1 := Aside0.mk (S.out.box #[.int .i64 (wrap64 (1 + z0)), .int .i64 0, .int .i64 0, .int .i64 0, .int .i64 0, .int .i64 0, .int .i64 0, .bool false])
 obtain ⟨gr, hgr⟩ : ∃ gr, gr = w_.heap.size := ⟨_, rfl⟩
 rw [← hgr] at S1 ⊢
 refine spec_l01Src_l04Note.gen (fun W => spec_l01Src_l04Note.ST w0 w W g gr go s0_0 _ _ _ #[.int .i64 (wrap64 (1 + z0)), .int .i64 0, .int .i64 0, .int .i64 0, .int .i64 0, .int .i64 0, .int .i64 0, .bool false]) S1.out ?_
 clear S S1 hgr
 intro W_ h_
 have S := Aside0.mk h_
 clear h_
 obtain ⟨c0, c1, c2, c3, c4, c5, c6, c7, f0, f1, f2, f3, f4, f5, f6, f7, o0, o1, o2, o3, o4, o5, o6, o7, q0, q1, q2, q3, q4, q5, q6, q7⟩ := S.out.facts
 by_cases k1 : wrap64 (1 + z0) = 1
 ·rw [if_pos k1] at h
  have d1 : (wrap64 (1 + z0) == 1) = true := beq_iff_eq.mpr k1
  clear k1
  replace h := Option.bind_eq_some_iff.mp h
  obtain ⟨⟨b1, b2, b3, b4, b5, b6, b7, j1, j2, j3⟩, q, h⟩ := h
  have Q := Aside0.mk q
  clear q
  have H := Aside0.mk h
  clear h
  go_wp2_with fail
  go_at_call 62
  with_reducible refine (spec_l01Src_l03Route.calls k g s0_0 _ _ _ _ _ _ _ _ _ _ _ _ _ w0 _ S.out.st S.out.bl Q.out).mono ?_
  rintro e w_ ⟨rfl, hI, hB, hK⟩
  replace S := Aside0.mk (S.out.call hI hB hK)
  clear Q hI hB hK
  have h := H.out
  clear H
  (try dsimp only at h)
  clear c0 c1 c2 c3 c4 c5 c6 c7 f0 f1 f2 f3 f4 f5 f6 f7 o0 o1 o2 o3 o4 o5 o6 o7 q0 q1 q2 q3 q4 q5 q6 q7
  obtain ⟨c0, c1, c2, c3, c4, c5, c6, c7, f0, f1, f2, f3, f4, f5, f6, f7, o0, o1, o2, o3, o4, o5, o6, o7, q0, q1, q2, q3, q4, q5, q6, q7⟩ := S.out.facts
  go_upto_region 7 with (fail)
  refine spec_l01Src_l04Note.gen (fun W => spec_l01Src_l04Note.ST w0 w W g gr go s0_0 _ _ _ #[.int .i64 (wrap64 (1 + z0)), .int .i64 b1, .int .i64 b2, .int .i64 b3, .int .i64 b4, .int .i64 b5, .int .i64 b6, .bool b7]) (S.out.all _ _ _ _ _ _ _) ?_
  clear c0 c1 c2 c3 c4 c5 c6 c7 f0 f1 f2 f3 f4 f5 f6 f7 o0 o1 o2 o3 o4 o5 o6 o7 q0 q1 q2 q3 q4 q5 q6 q7
  clear S
  intro W_ h_
  have S := Aside0.mk h_
  clear h_
  rcases k with _ | k
  ·rw [spec_l01Src_l04Note.j0] at h; cases h
  rw [spec_l01Src_l04Note.j0] at h
  replace h := Option.bind_eq_some_iff.mp h
  obtain ⟨⟨z15, i15, m15, u15⟩, q, h⟩ := h
  have Q := Aside0.mk q
  clear q
  have H := Aside0.mk h
  clear h
  go_wp2_with fail
  go_at_call 69
  with_reducible refine (spec_l01Src_one.calls g s0_0 _ _ _ 12 _ _ _ _ w0 _ S.out.st S.out.bl Q.out).mono ?_
  rintro e w_ ⟨rfl, hI, hB, hK⟩
  replace S := Aside0.mk (S.out.call hI hB hK)
  clear Q hI hB hK
  have h := H.out
  clear H
  (try dsimp only at h)
  cases z15 with
  | true =>
   rw [if_pos rfl] at h
   replace h := Option.bind_eq_some_iff.mp h
   obtain ⟨⟨z, z1, z2, z3⟩, q, h⟩ := h
   have Q := Aside0.mk q
   clear q
   have H := Aside0.mk h
   clear h
   go_wp2_with fail
   go_at_call 65
   with_reducible refine (spec_l01Src_n.calls g s0_0 _ _ _ 5 _ _ _ _ w0 _ S.out.st S.out.bl Q.out).mono ?_
   rintro e w_ ⟨rfl, hI, hB, hK⟩
   replace S := Aside0.mk (S.out.call hI hB hK)
   clear Q hI hB hK
   have h := H.out
   clear H
   (try dsimp only at h)
   simp only [Option.some.injEq, Prod.mk.injEq] at h
   obtain ⟨rfl, rfl, rfl, rfl, rfl, rfl, rfl, rfl, rfl, rfl, rfl⟩ := h
   obtain ⟨c0, c1, c2, c3, c4, c5, c6, c7, f0, f1, f2, f3, f4, f5, f6, f7, o0, o1, o2, o3, o4, o5, o6, o7, q0, q1, q2, q3, q4, q5, q6, q7⟩ := S.out.facts
   go_upto_region 9 with (fail)
   refine spec_l01Src_l04Note.gen (fun W => spec_l01Src_l04Note.ST w0 w W g gr go s0_0 _ _ _ _) (S.out.set 0 _) ?_
   clear c0 c1 c2 c3 c4 c5 c6 c7 f0 f1 f2 f3 f4 f5 f6 f7 o0 o1 o2 o3 o4 o5 o6 o7 q0 q1 q2 q3 q4 q5 q6 q7
   clear S
   intro W_ h_
   have S := Aside0.mk h_
   clear h_
   obtain ⟨c0, c1, c2, c3, c4, c5, c6, c7, f0, f1, f2, f3, f4, f5, f6, f7, o0, o1, o2, o3, o4, o5, o6, o7, q0, q1, q2, q3, q4, q5, q6, q7⟩ := S.out.facts
   go_wp2_with fail
   refine bodyPost_ret (results_cell_row rfl _ _ go 42 _ (0, 0) _ rfl (spec_l01Src_l04Note.fin S.out.bo _ _ _ _ _ _ _ _) Try.underlying42 rfl (by kernel_rfl)) rfl ⟨rfl, S.out.end_ _ _ _ _ _ _ _ _⟩
  | false =>
   rw [if_neg (by decide)] at h
   simp only [Option.some.injEq, Prod.mk.injEq] at h
   obtain ⟨rfl, rfl, rfl, rfl, rfl, rfl, rfl, rfl, rfl, rfl, rfl⟩ := h
   obtain ⟨c0, c1, c2, c3, c4, c5, c6, c7, f0, f1, f2, f3, f4, f5, f6, f7, o0, o1, o2, o3, o4, o5, o6, o7, q0, q1, q2, q3, q4, q5, q6, q7⟩ := S.out.facts
   go_wp2_with fail
   refine bodyPost_ret (results_cell_row rfl _ _ go 42 _ (0, 0) _ rfl (spec_l01Src_l04Note.fin S.out.bo _ _ _ _ _ _ _ _) Try.underlying42 rfl (by kernel_rfl)) rfl ⟨rfl, S.out.end_ _ _ _ _ _ _ _ _⟩
 rw [if_neg k1] at h
 have d1 : (wrap64 (1 + z0) == 1) = false := beq_eq_false_iff_ne.mpr k1
 clear k1
 by_cases k2 : wrap64 (1 + z0) = 2
 ·rw [if_pos k2] at h
  have d2 : (wrap64 (1 + z0) == 2) = true := beq_iff_eq.mpr k2
  clear k2
  replace h := Option.bind_eq_some_iff.mp h
  obtain ⟨⟨b1, b2, b3, b4, b5, b6, b7, j1, j2, j3⟩, q, h⟩ := h
  have Q := Aside0.mk q
  clear q
  have H := Aside0.mk h
  clear h
  go_wp2_with fail
  go_at_call 62
  with_reducible refine (spec_l01Src_l03Route.calls k g s0_0 _ _ _ _ _ _ _ _ _ _ _ _ _ w0 _ S.out.st S.out.bl Q.out).mono ?_
  rintro e w_ ⟨rfl, hI, hB, hK⟩
  replace S := Aside0.mk (S.out.call hI hB hK)
  clear Q hI hB hK
  have h := H.out
  clear H
  (try dsimp only at h)
  clear c0 c1 c2 c3 c4 c5 c6 c7 f0 f1 f2 f3 f4 f5 f6 f7 o0 o1 o2 o3 o4 o5 o6 o7 q0 q1 q2 q3 q4 q5 q6 q7
  replace h := Option.bind_eq_some_iff.mp h
  obtain ⟨⟨b1', b2', b3', b4', b5', b6', b7'⟩, q, h⟩ := h
  have QK := Aside0.mk q
  clear q
  have H := Aside0.mk h
  clear h
  go_wp2_with fail
  go_at_call 19
  with_reducible refine (spec_KeyOf.calls b1 b2 b3 b4 b5 b6 b7 _ _ _ _ _ _ _ _ QK.out).mono ?_
  rintro e wq ⟨rfl, hb⟩
  replace S := Aside0.mk (S.out.far hb)
  clear QK hb
  have h := H.out
  clear H
  (try dsimp only at h)
  obtain ⟨c0, c1, c2, c3, c4, c5, c6, c7, f0, f1, f2, f3, f4, f5, f6, f7, o0, o1, o2, o3, o4, o5, o6, o7, q0, q1, q2, q3, q4, q5, q6, q7⟩ := S.out.facts
  go_upto_region 7 with (fail)
  refine spec_l01Src_l04Note.gen (fun W => spec_l01Src_l04Note.ST w0 w W g gr go s0_0 _ _ _ #[.int .i64 (wrap64 (1 + z0)), .int .i64 b1', .int .i64 b2', .int .i64 b3', .int .i64 b4', .int .i64 b5', .int .i64 b6', .bool b7']) (S.out.all _ _ _ _ _ _ _) ?_
  clear c0 c1 c2 c3 c4 c5 c6 c7 f0 f1 f2 f3 f4 f5 f6 f7 o0 o1 o2 o3 o4 o5 o6 o7 q0 q1 q2 q3 q4 q5 q6 q7
  clear S
  intro W_ h_
  have S := Aside0.mk h_
  clear h_
  rcases k with _ | k
  ·rw [spec_l01Src_l04Note.j0] at h; cases h
  rw [spec_l01Src_l04Note.j0] at h
  replace h := Option.bind_eq_some_iff.mp h
  obtain ⟨⟨z15, i15, m15, u15⟩, q, h⟩ := h
  have Q := Aside0.mk q
  clear q
  have H := Aside0.mk h
  clear h
  go_wp2_with fail
  go_at_call 69
  with_reducible refine (spec_l01Src_one.calls g s0_0 _ _ _ 12 _ _ _ _ w0 _ S.out.st S.out.bl Q.out).mono ?_
  rintro e w_ ⟨rfl, hI, hB, hK⟩
  replace S := Aside0.mk (S.out.call hI hB hK)
  clear Q hI hB hK
  have h := H.out
  clear H
  (try dsimp only at h)
  cases z15 with
  | true =>
   rw [if_pos rfl] at h
   replace h := Option.bind_eq_some_iff.mp h
   obtain ⟨⟨z, z1, z2, z3⟩, q, h⟩ := h
   have Q := Aside0.mk q
   clear q
   have H := Aside0.mk h
   clear h
   go_wp2_with fail
   go_at_call 65
   with_reducible refine (spec_l01Src_n.calls g s0_0 _ _ _ 5 _ _ _ _ w0 _ S.out.st S.out.bl Q.out).mono ?_
   rintro e w_ ⟨rfl, hI, hB, hK⟩
   replace S := Aside0.mk (S.out.call hI hB hK)
   clear Q hI hB hK
   have h := H.out
   clear H
   (try dsimp only at h)
   simp only [Option.some.injEq, Prod.mk.injEq] at h
   obtain ⟨rfl, rfl, rfl, rfl, rfl, rfl, rfl, rfl, rfl, rfl, rfl⟩ := h
   obtain ⟨c0, c1, c2, c3, c4, c5, c6, c7, f0, f1, f2, f3, f4, f5, f6, f7, o0, o1, o2, o3, o4, o5, o6, o7, q0, q1, q2, q3, q4, q5, q6, q7⟩ := S.out.facts
   go_upto_region 9 with (fail)
   refine spec_l01Src_l04Note.gen (fun W => spec_l01Src_l04Note.ST w0 w W g gr go s0_0 _ _ _ _) (S.out.set 0 _) ?_
   clear c0 c1 c2 c3 c4 c5 c6 c7 f0 f1 f2 f3 f4 f5 f6 f7 o0 o1 o2 o3 o4 o5 o6 o7 q0 q1 q2 q3 q4 q5 q6 q7
   clear S
   intro W_ h_
   have S := Aside0.mk h_
   clear h_
   obtain ⟨c0, c1, c2, c3, c4, c5, c6, c7, f0, f1, f2, f3, f4, f5, f6, f7, o0, o1, o2, o3, o4, o5, o6, o7, q0, q1, q2, q3, q4, q5, q6, q7⟩ := S.out.facts
   go_wp2_with fail
   refine bodyPost_ret (results_cell_row rfl _ _ go 42 _ (0, 0) _ rfl (spec_l01Src_l04Note.fin S.out.bo _ _ _ _ _ _ _ _) Try.underlying42 rfl (by kernel_rfl)) rfl ⟨rfl, S.out.end_ _ _ _ _ _ _ _ _⟩
  | false =>
   rw [if_neg (by decide)] at h
   simp only [Option.some.injEq, Prod.mk.injEq] at h
   obtain ⟨rfl, rfl, rfl, rfl, rfl, rfl, rfl, rfl, rfl, rfl, rfl⟩ := h
   obtain ⟨c0, c1, c2, c3, c4, c5, c6, c7, f0, f1, f2, f3, f4, f5, f6, f7, o0, o1, o2, o3, o4, o5, o6, o7, q0, q1, q2, q3, q4, q5, q6, q7⟩ := S.out.facts
   go_wp2_with fail
   refine bodyPost_ret (results_cell_row rfl _ _ go 42 _ (0, 0) _ rfl (spec_l01Src_l04Note.fin S.out.bo _ _ _ _ _ _ _ _) Try.underlying42 rfl (by kernel_rfl)) rfl ⟨rfl, S.out.end_ _ _ _ _ _ _ _ _⟩
 rw [if_neg k2] at h
 have d2 : (wrap64 (1 + z0) == 2) = false := beq_eq_false_iff_ne.mpr k2
 clear k2
 go_upto_region 7 with (fail)
 refine spec_l01Src_l04Note.gen (fun W => spec_l01Src_l04Note.ST w0 w W g gr go s0_0 _ _ _ _) (S.out) ?_
 clear c0 c1 c2 c3 c4 c5 c6 c7 f0 f1 f2 f3 f4 f5 f6 f7 o0 o1 o2 o3 o4 o5 o6 o7 q0 q1 q2 q3 q4 q5 q6 q7
 clear S
 intro W_ h_
 have S := Aside0.mk h_
 clear h_
 rcases k with _ | k
 ·rw [spec_l01Src_l04Note.j0] at h; cases h
 rw [spec_l01Src_l04Note.j0] at h
 replace h := Option.bind_eq_some_iff.mp h
 obtain ⟨⟨z15, i15, m15, u15⟩, q, h⟩ := h
 have Q := Aside0.mk q
 clear q
 have H := Aside0.mk h
 clear h
 go_wp2_with fail
 go_at_call 69
 with_reducible refine (spec_l01Src_one.calls g s0_0 _ _ _ 12 _ _ _ _ w0 _ S.out.st S.out.bl Q.out).mono ?_
 rintro e w_ ⟨rfl, hI, hB, hK⟩
 replace S := Aside0.mk (S.out.call hI hB hK)
 clear Q hI hB hK
 have h := H.out
 clear H
 (try dsimp only at h)
 cases z15 with
 | true =>
  rw [if_pos rfl] at h
  replace h := Option.bind_eq_some_iff.mp h
  obtain ⟨⟨z, z1, z2, z3⟩, q, h⟩ := h
  have Q := Aside0.mk q
  clear q
  have H := Aside0.mk h
  clear h
  go_wp2_with fail
  go_at_call 65
  with_reducible refine (spec_l01Src_n.calls g s0_0 _ _ _ 5 _ _ _ _ w0 _ S.out.st S.out.bl Q.out).mono ?_
  rintro e w_ ⟨rfl, hI, hB, hK⟩
  replace S := Aside0.mk (S.out.call hI hB hK)
  clear Q hI hB hK
  have h := H.out
  clear H
  (try dsimp only at h)
  simp only [Option.some.injEq, Prod.mk.injEq] at h
  obtain ⟨rfl, rfl, rfl, rfl, rfl, rfl, rfl, rfl, rfl, rfl, rfl⟩ := h
  obtain ⟨c0, c1, c2, c3, c4, c5, c6, c7, f0, f1, f2, f3, f4, f5, f6, f7, o0, o1, o2, o3, o4, o5, o6, o7, q0, q1, q2, q3, q4, q5, q6, q7⟩ := S.out.facts
  go_upto_region 9 with (fail)
  refine spec_l01Src_l04Note.gen (fun W => spec_l01Src_l04Note.ST w0 w W g gr go s0_0 _ _ _ _) (S.out.set 0 _) ?_
  clear c0 c1 c2 c3 c4 c5 c6 c7 f0 f1 f2 f3 f4 f5 f6 f7 o0 o1 o2 o3 o4 o5 o6 o7 q0 q1 q2 q3 q4 q5 q6 q7
  clear S
  intro W_ h_
  have S := Aside0.mk h_
  clear h_
  obtain ⟨c0, c1, c2, c3, c4, c5, c6, c7, f0, f1, f2, f3, f4, f5, f6, f7, o0, o1, o2, o3, o4, o5, o6, o7, q0, q1, q2, q3, q4, q5, q6, q7⟩ := S.out.facts
  go_wp2_with fail
  refine bodyPost_ret (results_cell_row rfl _ _ go 42 _ (0, 0) _ rfl (spec_l01Src_l04Note.fin S.out.bo _ _ _ _ _ _ _ _) Try.underlying42 rfl (by kernel_rfl)) rfl ⟨rfl, S.out.end_ _ _ _ _ _ _ _ _⟩
 | false =>
  rw [if_neg (by decide)] at h
  simp only [Option.some.injEq, Prod.mk.injEq] at h
  obtain ⟨rfl, rfl, rfl, rfl, rfl, rfl, rfl, rfl, rfl, rfl, rfl⟩ := h
  obtain ⟨c0, c1, c2, c3, c4, c5, c6, c7, f0, f1, f2, f3, f4, f5, f6, f7, o0, o1, o2, o3, o4, o5, o6, o7, q0, q1, q2, q3, q4, q5, q6, q7⟩ := S.out.facts
  go_wp2_with fail
  refine bodyPost_ret (results_cell_row rfl _ _ go 42 _ (0, 0) _ rfl (spec_l01Src_l04Note.fin S.out.bo _ _ _ _ _ _ _ _) Try.underlying42 rfl (by kernel_rfl)) rfl ⟨rfl, S.out.end_ _ _ _ _ _ _ _ _⟩
def spec_DrawNoteBytes.f (k : Nat) (l0 : List Int) : Option (Int × Int × Int × Int × Int × Int × Int × Bool) := (spec_l01Source.f k l0).bind fun bt158 => ((spec_l01Src_l04Note.f k bt158.1 bt158.2.1 bt158.2.2.1 bt158.2.2.2).bind fun bt163 => (some (bt163.1, bt163.2.1, bt163.2.2.1, bt163.2.2.2.1, bt163.2.2.2.2.1, bt163.2.2.2.2.2.1, bt163.2.2.2.2.2.2.1, bt163.2.2.2.2.2.2.2.1)))
set_option maxHeartbeats 8000000 in
set_option maxRecDepth 100000 in
theorem spec_DrawNoteBytes.calls (k : Nat) (A0 : Option Addr) (c0 : Nat) (l0 : List Int) (r1 : Int) (r2 : Int) (r3 : Int) (r4 : Int) (r5 : Int) (r6 : Int) (r7 : Int) (r8 : Bool) (w : World) (hr0 : Kd.C (Kd.int .u8) w A0 l0.length l0) (hc0 : l0.length ≤ c0) (h : spec_DrawNoteBytes.f k l0 = some (r1, r2, r3, r4, r5, r6, r7, r8)) :
  Calls Try.prog 22 #[.slice A0 l0.length c0] w fun e w' => e = .returned (.agg #[.int .i64 r1, .int .i64 r2, .int .i64 r3, .int .i64 r4, .int .i64 r5, .int .i64 r6, .int .i64 r7, .bool r8]) ∧ Below w.heap.size w w' := by
 have hu42 := Try.underlying42
 have HR0 := Aside0.mk hr0
 have HC0 := Aside0.mk hc0
 clear hr0 hc0
 have HB := Aside0.mk (Below.refl w.heap.size w)
 have H : ((spec_l01Source.f k l0).bind fun bt158 => ((spec_l01Src_l04Note.f k bt158.1 bt158.2.1 bt158.2.2.1 bt158.2.2.2).bind fun bt163 => (some (bt163.1, bt163.2.1, bt163.2.2.1, bt163.2.2.2.1, bt163.2.2.2.2.1, bt163.2.2.2.2.2.1, bt163.2.2.2.2.2.2.1, bt163.2.2.2.2.2.2.2.1)))) = some (r1, r2, r3, r4, r5, r6, r7, r8) := h
 clear h
 replace H := Option.bind_eq_some_iff.mp H
 obtain ⟨⟨t158, t159, t160, t161⟩, A20, H⟩ := H
 try dsimp only at H
 have A2 := Aside0.mk A20
 clear A20
 replace H := Option.bind_eq_some_iff.mp H
 obtain ⟨⟨t163, t164, t165, t166, t167, t168, t169, t170, t171, t172, t173⟩, A30, H⟩ := H
 try dsimp only at H
 have A3 := Aside0.mk A30
 clear A30
 simp only [Option.some.injEq, Prod.mk.injEq] at H
 obtain ⟨rfl, rfl, rfl, rfl, rfl, rfl, rfl, rfl⟩ := H
 go_enter Try.func22, Try.ntmps22
 go_wp2_with (first | ((with_reducible refine gate_dst (N := 2) rfl ?_); refine box_event ?hg (N := 2) ?hd (cs := #[.int .i64 0, .int .i64 0, .int .i64 0, .int .i64 0, .int .i64 0, .int .i64 0, .int .i64 0, .bool false]) (t := 42) ?hr ?_; (case hd => rfl); (case hg => rfl); (case hr => first | (go_simp; done) | (go_simp; rfl)); intro gb157 hg w4 hbox hb; have n0_ := Aside0.mk (below_step (by repeat (first | (with_reducible first | exact HB.out | apply below_alloc | apply pw_below_drewN | apply below_drew1) | exact HB.out)) hb); have n1_ := Aside0.mk (hbox); have n2_ := Aside0.mk ((by rw [hg]; exact (below_size (by repeat (first | (with_reducible first | exact HB.out | apply below_alloc | apply pw_below_drewN | apply below_drew1) | exact HB.out))) : w.heap.size ≤ gb157)); have n3_ := Aside0.mk ((by rw [hg]; exact (below_size (by repeat (first | (with_reducible first | exact HB.out | apply below_alloc | apply pw_below_drewN | apply below_drew1) | exact HB.out))) : w.heap.size ≤ gb157)); clear HB; have HB := n0_; have BK157 := n1_; have GW157 := n2_; have GE157 := n3_; clear n0_ n1_ n2_ n3_; clear hb hbox hg) | ((with_reducible refine gate_callee (f := 61) rfl ?_); refine goesL_ (some 4) rfl rfl Try.func61 (by kernel_rfl) rfl #[.slice A0 l0.length c0] rfl (by (try simp only [mA, mC, mN]); first | done | rfl | (simp only [List.length_drop, List.length_take]; rfl)) ?_; (with_reducible refine (spec_l01Source.calls k _ _ l0 t158 t159 t160 t161 w _ ?side1 ?side2 ?side3 A2.out).mono ?_); (case side1 => repeat (first | (with_reducible first | exact HB.out | apply below_alloc | apply pw_below_drewN | apply below_drew1 | refine below_set ?_ GE157.out) | exact HB.out)); (case side2 => exact HR0.out); (case side3 => exact HC0.out); rintro e w5 ⟨g162, rfl, hi, hb, hb2⟩; refine ⟨_, rfl, ?_⟩; have n0_ := Aside0.mk (blk_below (g := gb157) (by (with_reducible repeat (first | refine blk_drewN ?_ _ | refine blk_drew ?_ | refine blk_alloc ?_ _)); exact BK157.out) hb2); have n1_ := Aside0.mk (hb); have n2_ := Aside0.mk (hi); have n3_ := Aside0.mk (IsS117.ne_blk hi (blk_below (g := gb157) (by (with_reducible repeat (first | refine blk_drewN ?_ _ | refine blk_drew ?_ | refine blk_alloc ?_ _)); exact BK157.out) hb2) (by decide)); have n4_ := Aside0.mk (Ne.symm (IsS117.ne_blk hi (blk_below (g := gb157) (by (with_reducible repeat (first | refine blk_drewN ?_ _ | refine blk_drew ?_ | refine blk_alloc ?_ _)); exact BK157.out) hb2) (by decide))); clear BK157; clear HB; have BK157 := n0_; have HB := n1_; have HI162 := n2_; have NB162_157 := n3_; have NB157_162 := n4_; clear n0_ n1_ n2_ n3_ n4_; (try clear hb); (try clear hb2); (try clear hk); (try clear hi)) | ((with_reducible refine gate_callee (f := 84) rfl ?_); refine goesL_ (some 5) rfl rfl Try.func84 (by kernel_rfl) rfl #[.pointer (some ⟨g162, 0, none⟩)] rfl (by (try simp only [mA, mC, mN]); first | done | rfl | (simp only [List.length_drop, List.length_take]; rfl)) ?_; (with_reducible refine (spec_l01Src_l04Note.calls k g162 t158 t159 t160 t161 t163 t164 t165 t166 t167 t168 t169 t170 t171 t172 t173 w _ ?side1 ?side2 A3.out).mono ?_); (case side1 => repeat (first | (with_reducible first | exact HI162.out | apply IsS117.alloc | apply IsS117.drewN | apply IsS117.drew | apply IsS117.set_1 | apply IsS117.set_2 | apply IsS117.set_3 | apply IsS117.far (hne := NB162_157.out)) | exact HI162.out | exact (default : Bool))); (case side2 => repeat (first | (with_reducible first | exact HB.out | apply below_alloc | apply pw_below_drewN | apply below_drew1 | refine below_set ?_ (IsS117.ge HI162.out) | refine below_set ?_ GE157.out) | exact HB.out)); rintro e w6 ⟨rfl, hi, hb, hk⟩; refine ⟨_, rfl, ?_⟩; have n0_ := Aside0.mk (KeepBut.blk hk (g' := gb157) (by (with_reducible repeat (first | refine blk_drewN ?_ _ | refine blk_drew ?_ | refine blk_alloc ?_ _)); exact BK157.out) NB157_162.out (by simp)); have n1_ := Aside0.mk (hb); have n2_ := Aside0.mk (hi); clear BK157; clear HB; clear HI162; have BK157 := n0_; have HB := n1_; have HI162 := n2_; clear n0_ n1_ n2_; (try clear hb); (try clear hb2); (try clear hk); (try clear hi); have hnb7 := NB157_162.out; have hnc7 := NB162_157.out; have hcz8_0 : w6.cell? ⟨gb157, 0, none⟩ = some (.int .i64 0) := (blk_cell BK157.out 0).trans rfl; have hcz8_1 : w6.cell? ⟨gb157, 1, none⟩ = some (.int .i64 0) := (blk_cell BK157.out 1).trans rfl; have hcz8_2 : w6.cell? ⟨gb157, 2, none⟩ = some (.int .i64 0) := (blk_cell BK157.out 2).trans rfl; have hcz8_3 : w6.cell? ⟨gb157, 3, none⟩ = some (.int .i64 0) := (blk_cell BK157.out 3).trans rfl; have hcz8_4 : w6.cell? ⟨gb157, 4, none⟩ = some (.int .i64 0) := (blk_cell BK157.out 4).trans rfl; have hcz8_5 : w6.cell? ⟨gb157, 5, none⟩ = some (.int .i64 0) := (blk_cell BK157.out 5).trans rfl; have hcz8_6 : w6.cell? ⟨gb157, 6, none⟩ = some (.int .i64 0) := (blk_cell BK157.out 6).trans rfl; have hcz8_7 : w6.cell? ⟨gb157, 7, none⟩ = some (.bool false) := (blk_cell BK157.out 7).trans rfl; have hfz8_0 := blk_frozen BK157.out 0; have hfz8_1 := blk_frozen BK157.out 1; have hfz8_2 := blk_frozen BK157.out 2; have hfz8_3 := blk_frozen BK157.out 3; have hfz8_4 := blk_frozen BK157.out 4; have hfz8_5 := blk_frozen BK157.out 5; have hfz8_6 := blk_frozen BK157.out 6; have hfz8_7 := blk_frozen BK157.out 7))
 (try (unfold Instr.field; go_simp; unfold asAgg; go_simp; go_wp2))
 refine bodyPost_ret (results_cell_row rfl _ _ gb157 42 #[.int .i64 t163, .int .i64 t164, .int .i64 t165, .int .i64 t166, .int .i64 t167, .int .i64 t168, .int .i64 t169, .bool t170] (0, 0) _ rfl (by (with_reducible repeat (first | refine blk_drewN ?_ _ | refine blk_drew ?_ | refine blk_alloc ?_ _)); refine blk_put (cs := #[.int .i64 t163, .int .i64 t164, .int .i64 t165, .int .i64 t166, .int .i64 t167, .int .i64 t168, .int .i64 t169, .bool false]) ?_ 7 _ (by first | rfl | (subst_vars; rfl)); (with_reducible repeat (first | refine blk_drewN ?_ _ | refine blk_drew ?_ | refine blk_alloc ?_ _)); refine blk_put (cs := #[.int .i64 t163, .int .i64 t164, .int .i64 t165, .int .i64 t166, .int .i64 t167, .int .i64 t168, .int .i64 0, .bool false]) ?_ 6 _ (by first | rfl | (subst_vars; rfl)); (with_reducible repeat (first | refine blk_drewN ?_ _ | refine blk_drew ?_ | refine blk_alloc ?_ _)); refine blk_put (cs := #[.int .i64 t163, .int .i64 t164, .int .i64 t165, .int .i64 t166, .int .i64 t167, .int .i64 0, .int .i64 0, .bool false]) ?_ 5 _ (by first | rfl | (subst_vars; rfl)); (with_reducible repeat (first | refine blk_drewN ?_ _ | refine blk_drew ?_ | refine blk_alloc ?_ _)); refine blk_put (cs := #[.int .i64 t163, .int .i64 t164, .int .i64 t165, .int .i64 t166, .int .i64 0, .int .i64 0, .int .i64 0, .bool false]) ?_ 4 _ (by first | rfl | (subst_vars; rfl)); (with_reducible repeat (first | refine blk_drewN ?_ _ | refine blk_drew ?_ | refine blk_alloc ?_ _)); refine blk_put (cs := #[.int .i64 t163, .int .i64 t164, .int .i64 t165, .int .i64 0, .int .i64 0, .int .i64 0, .int .i64 0, .bool false]) ?_ 3 _ (by first | rfl | (subst_vars; rfl)); (with_reducible repeat (first | refine blk_drewN ?_ _ | refine blk_drew ?_ | refine blk_alloc ?_ _)); refine blk_put (cs := #[.int .i64 t163, .int .i64 t164, .int .i64 0, .int .i64 0, .int .i64 0, .int .i64 0, .int .i64 0, .bool false]) ?_ 2 _ (by first | rfl | (subst_vars; rfl)); (with_reducible repeat (first | refine blk_drewN ?_ _ | refine blk_drew ?_ | refine blk_alloc ?_ _)); refine blk_put (cs := #[.int .i64 t163, .int .i64 0, .int .i64 0, .int .i64 0, .int .i64 0, .int .i64 0, .int .i64 0, .bool false]) ?_ 1 _ (by first | rfl | (subst_vars; rfl)); (with_reducible repeat (first | refine blk_drewN ?_ _ | refine blk_drew ?_ | refine blk_alloc ?_ _)); refine blk_put (cs := #[.int .i64 0, .int .i64 0, .int .i64 0, .int .i64 0, .int .i64 0, .int .i64 0, .int .i64 0, .bool false]) ?_ 0 _ (by first | rfl | (subst_vars; rfl)); (with_reducible repeat (first | refine blk_drewN ?_ _ | refine blk_drew ?_ | refine blk_alloc ?_ _)); exact BK157.out) Try.underlying42 rfl (by kernel_rfl)) rfl ?_
 exact ⟨by first | rfl | (simp [errW_none, errW_some] <;> rfl) | (simp [*, errW_none, errW_some] <;> rfl), by repeat (first | (with_reducible first | exact HB.out | apply below_alloc | apply pw_below_drewN | apply below_drew1 | refine below_set ?_ (IsS117.ge HI162.out) | refine below_set ?_ GE157.out) | exact HB.out)⟩
def impl_in.f (a0 : Int) (a1 : Int) (a2 : Int) : Option (Bool) := if a1 ≤ a0 then (some (decide (a0 ≤ a2))) else (some false)
set_option maxHeartbeats 8000000 in
set_option maxRecDepth 100000 in
theorem impl_in.calls (a0 : Int) (a1 : Int) (a2 : Int) (r : Bool) (w : World) (h : impl_in.f a0 a1 a2 = some r) :
  Calls Try.prog 111 #[.int .i64 a0, .int .i64 a1, .int .i64 a2] w fun e w' => e = .returned (.bool r) ∧ Drawn0 w w' := by
 have H : (if a1 ≤ a0 then (some (decide (a0 ≤ a2))) else (some false)) = some r := h
 clear h
 by_cases c4 : a1 ≤ a0
 ·rw [if_pos c4] at H
  have c4b0 : decide (a1 ≤ a0) = true := decide_eq_true c4
  clear c4
  obtain rfl := Option.some.inj H
  go_enter Try.func111, Try.ntmps111
  go_wp2
  go_ret
  exact ⟨by first | rfl | (simp; done) | (simp [*]; done), by repeat (first | exact Drawn0.refl _ | apply Drawn0.step)⟩
 ·rw [if_neg c4] at H
  have c4b0 : decide (a1 ≤ a0) = false := decide_eq_false c4
  clear c4
  obtain rfl := Option.some.inj H
  go_enter Try.func111, Try.ntmps111
  go_wp2
  go_ret
  exact ⟨by first | rfl | (simp; done) | (simp [*]; done), by repeat (first | exact Drawn0.refl _ | apply Drawn0.step)⟩
def impl_isVni.f (a0 : Int) : Option (Bool) := (impl_in.f a0 1 16777215).bind fun t174 => (some t174)
set_option maxHeartbeats 8000000 in
set_option maxRecDepth 100000 in
theorem impl_isVni.calls (a0 : Int) (r : Bool) (w : World) (h : impl_isVni.f a0 = some r) :
  Calls Try.prog 74 #[.int .i64 a0] w fun e w' => e = .returned (.bool r) ∧ Drawn0 w w' := by
 have H : ((impl_in.f a0 1 16777215).bind fun t174 => (some t174)) = some r := h
 clear h
 replace H := Option.bind_eq_some_iff.mp H
 obtain ⟨t174, A20, H⟩ := H
 try dsimp only at H
 have A2 := Aside0.mk A20
 clear A20
 obtain rfl := Option.some.inj H
 go_enter Try.func74, Try.ntmps74
 go_wp2_with (first | ((with_reducible refine gate_callee (f := 111) rfl ?_); refine goesL_ (some 4) rfl rfl Try.func111 (by kernel_rfl) rfl #[.int .i64 a0, .int .i64 1, .int .i64 16777215] rfl (by (try simp only [mA, mC, mN]); first | done | rfl | (simp only [List.length_drop, List.length_take]; rfl)) ?_; (with_reducible refine (impl_in.calls a0 1 16777215 t174 _ A2.out).mono ?_); rintro e w' ⟨rfl, ⟨nd, rfl⟩⟩; refine ⟨_, rfl, ?_⟩))
 (try (unfold Instr.field; go_simp; unfold asAgg; go_simp; go_wp2))
 go_ret
 exact ⟨by first | rfl | (simp; done) | (simp [*]; done), by repeat (first | exact Drawn0.refl _ | apply Drawn0.step)⟩
def impl_isHouse.f (a0 : Int) : Option (Bool) := (impl_in.f a0 1 4).bind fun t175 => (some t175)
set_option maxHeartbeats 8000000 in
set_option maxRecDepth 100000 in
theorem impl_isHouse.calls (a0 : Int) (r : Bool) (w : World) (h : impl_isHouse.f a0 = some r) :
  Calls Try.prog 75 #[.int .i64 a0] w fun e w' => e = .returned (.bool r) ∧ Drawn0 w w' := by
 have H : ((impl_in.f a0 1 4).bind fun t175 => (some t175)) = some r := h
 clear h
 replace H := Option.bind_eq_some_iff.mp H
 obtain ⟨t175, A20, H⟩ := H
 try dsimp only at H
 have A2 := Aside0.mk A20
 clear A20
 obtain rfl := Option.some.inj H
 go_enter Try.func75, Try.ntmps75
 go_wp2_with (first | ((with_reducible refine gate_callee (f := 111) rfl ?_); refine goesL_ (some 4) rfl rfl Try.func111 (by kernel_rfl) rfl #[.int .i64 a0, .int .i64 1, .int .i64 4] rfl (by (try simp only [mA, mC, mN]); first | done | rfl | (simp only [List.length_drop, List.length_take]; rfl)) ?_; (with_reducible refine (impl_in.calls a0 1 4 t175 _ A2.out).mono ?_); rintro e w' ⟨rfl, ⟨nd, rfl⟩⟩; refine ⟨_, rfl, ?_⟩))
 (try (unfold Instr.field; go_simp; unfold asAgg; go_simp; go_wp2))
 go_ret
 exact ⟨by first | rfl | (simp; done) | (simp [*]; done), by repeat (first | exact Drawn0.refl _ | apply Drawn0.step)⟩
def impl_isMac.f (a0 : Int) : Option (Bool) := (impl_in.f a0 0 281474976710655).bind fun t176 => (some t176)
set_option maxHeartbeats 8000000 in
set_option maxRecDepth 100000 in
theorem impl_isMac.calls (a0 : Int) (r : Bool) (w : World) (h : impl_isMac.f a0 = some r) :
  Calls Try.prog 119 #[.int .i64 a0] w fun e w' => e = .returned (.bool r) ∧ Drawn0 w w' := by
 have H : ((impl_in.f a0 0 281474976710655).bind fun t176 => (some t176)) = some r := h
 clear h
 replace H := Option.bind_eq_some_iff.mp H
 obtain ⟨t176, A20, H⟩ := H
 try dsimp only at H
 have A2 := Aside0.mk A20
 clear A20
 obtain rfl := Option.some.inj H
 go_enter Try.func119, Try.ntmps119
 go_wp2_with (first | ((with_reducible refine gate_callee (f := 111) rfl ?_); refine goesL_ (some 4) rfl rfl Try.func111 (by kernel_rfl) rfl #[.int .i64 a0, .int .i64 0, .int .i64 281474976710655] rfl (by (try simp only [mA, mC, mN]); first | done | rfl | (simp only [List.length_drop, List.length_take]; rfl)) ?_; (with_reducible refine (impl_in.calls a0 0 281474976710655 t176 _ A2.out).mono ?_); rintro e w' ⟨rfl, ⟨nd, rfl⟩⟩; refine ⟨_, rfl, ?_⟩))
 (try (unfold Instr.field; go_simp; unfold asAgg; go_simp; go_wp2))
 go_ret
 exact ⟨by first | rfl | (simp; done) | (simp [*]; done), by repeat (first | exact Drawn0.refl _ | apply Drawn0.step)⟩
def impl_IsGroup.f (a0 : Int) : Option (Bool) := (impl_isMac.f a0).bind fun t177 => (if t177 = true then (some ((Go.bits .and .i64 (a0 / 1099511627776) 1) == 1)) else (some false))
set_option maxHeartbeats 8000000 in
set_option maxRecDepth 100000 in
theorem impl_IsGroup.calls (a0 : Int) (r : Bool) (w : World) (h : impl_IsGroup.f a0 = some r) :
  Calls Try.prog 120 #[.int .i64 a0] w fun e w' => e = .returned (.bool r) ∧ Drawn0 w w' := by
 have H : ((impl_isMac.f a0).bind fun t177 => (if t177 = true then (some ((Go.bits .and .i64 (a0 / 1099511627776) 1) == 1)) else (some false))) = some r := h
 clear h
 replace H := Option.bind_eq_some_iff.mp H
 obtain ⟨t177, A20, H⟩ := H
 try dsimp only at H
 have A2 := Aside0.mk A20
 clear A20
 by_cases c3 : t177 = true
 ·subst c3
  have H1 : (some ((Go.bits .and .i64 (a0 / 1099511627776) 1) == 1)) = some r := by rw [if_pos rfl] at H; exact H
  clear H
  have H := H1
  clear H1
  obtain rfl := Option.some.inj H
  go_enter Try.func120, Try.ntmps120
  go_wp2_with (first | ((with_reducible refine gate_callee (f := 119) rfl ?_); refine goesL_ (some 4) rfl rfl Try.func119 (by kernel_rfl) rfl #[.int .i64 a0] rfl (by (try simp only [mA, mC, mN]); first | done | rfl | (simp only [List.length_drop, List.length_take]; rfl)) ?_; (with_reducible refine (impl_isMac.calls a0 true _ A2.out).mono ?_); rintro e w' ⟨rfl, ⟨nd, rfl⟩⟩; refine ⟨_, rfl, ?_⟩))
  (try (unfold Instr.field; go_simp; unfold asAgg; go_simp; go_wp2))
  go_ret
  exact ⟨by first | rfl | (simp; done) | (simp [*]; done), by repeat (first | exact Drawn0.refl _ | apply Drawn0.step)⟩
 ·replace c3 := Bool.eq_false_iff.mpr c3
  subst c3
  have H1 : (some false) = some r := by rw [if_neg (show ¬ (false = true) by decide)] at H; exact H
  clear H
  have H := H1
  clear H1
  obtain rfl := Option.some.inj H
  go_enter Try.func120, Try.ntmps120
  go_wp2_with (first | ((with_reducible refine gate_callee (f := 119) rfl ?_); refine goesL_ (some 4) rfl rfl Try.func119 (by kernel_rfl) rfl #[.int .i64 a0] rfl (by (try simp only [mA, mC, mN]); first | done | rfl | (simp only [List.length_drop, List.length_take]; rfl)) ?_; (with_reducible refine (impl_isMac.calls a0 false _ A2.out).mono ?_); rintro e w' ⟨rfl, ⟨nd, rfl⟩⟩; refine ⟨_, rfl, ?_⟩))
  (try (unfold Instr.field; go_simp; unfold asAgg; go_simp; go_wp2))
  go_ret
  exact ⟨by first | rfl | (simp; done) | (simp [*]; done), by repeat (first | exact Drawn0.refl _ | apply Drawn0.step)⟩
def impl_isGuest.f (a0 : Int) : Option (Bool) := (impl_isMac.f a0).bind fun t178 => (if t178 = true then ((impl_IsGroup.f a0).bind fun t179 => (some (!t179))) else (some false))
set_option maxHeartbeats 8000000 in
set_option maxRecDepth 100000 in
theorem impl_isGuest.calls (a0 : Int) (r : Bool) (w : World) (h : impl_isGuest.f a0 = some r) :
  Calls Try.prog 76 #[.int .i64 a0] w fun e w' => e = .returned (.bool r) ∧ Drawn0 w w' := by
 have H : ((impl_isMac.f a0).bind fun t178 => (if t178 = true then ((impl_IsGroup.f a0).bind fun t179 => (some (!t179))) else (some false))) = some r := h
 clear h
 replace H := Option.bind_eq_some_iff.mp H
 obtain ⟨t178, A20, H⟩ := H
 try dsimp only at H
 have A2 := Aside0.mk A20
 clear A20
 by_cases c3 : t178 = true
 ·subst c3
  have H1 : ((impl_IsGroup.f a0).bind fun t179 => (some (!t179))) = some r := by rw [if_pos rfl] at H; exact H
  clear H
  have H := H1
  clear H1
  replace H := Option.bind_eq_some_iff.mp H
  obtain ⟨t179, A40, H⟩ := H
  try dsimp only at H
  have A4 := Aside0.mk A40
  clear A40
  obtain rfl := Option.some.inj H
  go_enter Try.func76, Try.ntmps76
  go_wp2_with (first | ((with_reducible refine gate_callee (f := 119) rfl ?_); refine goesL_ (some 4) rfl rfl Try.func119 (by kernel_rfl) rfl #[.int .i64 a0] rfl (by (try simp only [mA, mC, mN]); first | done | rfl | (simp only [List.length_drop, List.length_take]; rfl)) ?_; (with_reducible refine (impl_isMac.calls a0 true _ A2.out).mono ?_); rintro e w' ⟨rfl, ⟨nd, rfl⟩⟩; refine ⟨_, rfl, ?_⟩) | (go_at_call 120; (with_reducible refine (impl_IsGroup.calls a0 t179 _ A4.out).mono ?_); rintro e w' ⟨rfl, ⟨nd, rfl⟩⟩))
  (try (unfold Instr.field; go_simp; unfold asAgg; go_simp; go_wp2))
  go_ret
  exact ⟨by first | rfl | (simp; done) | (simp [*]; done), by repeat (first | exact Drawn0.refl _ | apply Drawn0.step)⟩
 ·replace c3 := Bool.eq_false_iff.mpr c3
  subst c3
  have H1 : (some false) = some r := by rw [if_neg (show ¬ (false = true) by decide)] at H; exact H
  clear H
  have H := H1
  clear H1
  obtain rfl := Option.some.inj H
  go_enter Try.func76, Try.ntmps76
  go_wp2_with (first | ((with_reducible refine gate_callee (f := 119) rfl ?_); refine goesL_ (some 4) rfl rfl Try.func119 (by kernel_rfl) rfl #[.int .i64 a0] rfl (by (try simp only [mA, mC, mN]); first | done | rfl | (simp only [List.length_drop, List.length_take]; rfl)) ?_; (with_reducible refine (impl_isMac.calls a0 false _ A2.out).mono ?_); rintro e w' ⟨rfl, ⟨nd, rfl⟩⟩; refine ⟨_, rfl, ?_⟩))
  (try (unfold Instr.field; go_simp; unfold asAgg; go_simp; go_wp2))
  go_ret
  exact ⟨by first | rfl | (simp; done) | (simp [*]; done), by repeat (first | exact Drawn0.refl _ | apply Drawn0.step)⟩
def impl_isIp.f (a0 : Int) : Option (Bool) := (impl_in.f a0 0 4294967295).bind fun t180 => (some t180)
set_option maxHeartbeats 8000000 in
set_option maxRecDepth 100000 in
theorem impl_isIp.calls (a0 : Int) (r : Bool) (w : World) (h : impl_isIp.f a0 = some r) :
  Calls Try.prog 77 #[.int .i64 a0] w fun e w' => e = .returned (.bool r) ∧ Drawn0 w w' := by
 have H : ((impl_in.f a0 0 4294967295).bind fun t180 => (some t180)) = some r := h
 clear h
 replace H := Option.bind_eq_some_iff.mp H
 obtain ⟨t180, A20, H⟩ := H
 try dsimp only at H
 have A2 := Aside0.mk A20
 clear A20
 obtain rfl := Option.some.inj H
 go_enter Try.func77, Try.ntmps77
 go_wp2_with (first | ((with_reducible refine gate_callee (f := 111) rfl ?_); refine goesL_ (some 4) rfl rfl Try.func111 (by kernel_rfl) rfl #[.int .i64 a0, .int .i64 0, .int .i64 4294967295] rfl (by (try simp only [mA, mC, mN]); first | done | rfl | (simp only [List.length_drop, List.length_take]; rfl)) ?_; (with_reducible refine (impl_in.calls a0 0 4294967295 t180 _ A2.out).mono ?_); rintro e w' ⟨rfl, ⟨nd, rfl⟩⟩; refine ⟨_, rfl, ?_⟩))
 (try (unfold Instr.field; go_simp; unfold asAgg; go_simp; go_wp2))
 go_ret
 exact ⟨by first | rfl | (simp; done) | (simp [*]; done), by repeat (first | exact Drawn0.refl _ | apply Drawn0.step)⟩
def impl_isTime.f (a0 : Int) : Option (Bool) := (impl_in.f a0 0 1000000).bind fun t181 => (some t181)
set_option maxHeartbeats 8000000 in
set_option maxRecDepth 100000 in
theorem impl_isTime.calls (a0 : Int) (r : Bool) (w : World) (h : impl_isTime.f a0 = some r) :
  Calls Try.prog 78 #[.int .i64 a0] w fun e w' => e = .returned (.bool r) ∧ Drawn0 w w' := by
 have H : ((impl_in.f a0 0 1000000).bind fun t181 => (some t181)) = some r := h
 clear h
 replace H := Option.bind_eq_some_iff.mp H
 obtain ⟨t181, A20, H⟩ := H
 try dsimp only at H
 have A2 := Aside0.mk A20
 clear A20
 obtain rfl := Option.some.inj H
 go_enter Try.func78, Try.ntmps78
 go_wp2_with (first | ((with_reducible refine gate_callee (f := 111) rfl ?_); refine goesL_ (some 4) rfl rfl Try.func111 (by kernel_rfl) rfl #[.int .i64 a0, .int .i64 0, .int .i64 1000000] rfl (by (try simp only [mA, mC, mN]); first | done | rfl | (simp only [List.length_drop, List.length_take]; rfl)) ?_; (with_reducible refine (impl_in.calls a0 0 1000000 t181 _ A2.out).mono ?_); rintro e w' ⟨rfl, ⟨nd, rfl⟩⟩; refine ⟨_, rfl, ?_⟩))
 (try (unfold Instr.field; go_simp; unfold asAgg; go_simp; go_wp2))
 go_ret
 exact ⟨by first | rfl | (simp; done) | (simp [*]; done), by repeat (first | exact Drawn0.refl _ | apply Drawn0.step)⟩
end Go.Proofs.Ytbanbmkfdkbfiaa.PFnNote
