-- Written by a program of this session (wip/ep), out of the translation. Lean checks it.
import Derived.Test.YtkbhdiambabnnaaPFnExactPipeHearx0
import Derived.Test.YtkbhdiambabnnaaPFnExactPipeHearx3
namespace Go.Proofs.Ytkbhdiambabnnaa.PFnExactPipeHear
open Go.RowKit Go.Proofs.YtkbhdiambabnnaaW.PrintWords Go.Proofs.YtkbhdiambabnnaaW.PrintLast Go.Proofs.YtkbhdiambabnnaaW.PrintMore
attribute [local go_sem] max2_int min2_int max_two min_two max_three min_three max_four min_four   -- for this text's walks alone
set_option linter.unusedVariables false
set_option linter.unusedSimpArgs false

/-! ### spec_l05Hear: function 134 -/
def spec_l05Hear.ack (b : Int) (l : List ByteArray) (x3 : Int) : Option (Int × List ByteArray) :=
  if x3 > b then (if x3 ≤ wrap64 (b + (l.length : Int)) then (if 0 ≤ wrap64 (x3 - b) ∧ wrap64 (x3 - b) ≤ (l.length : Int) ∧ l.length < 8796093022208 then some (x3, l.drop (wrap64 (x3 - b)).toNat) else none) else some (b, l)) else some (b, l)
def spec_l05Hear.go (e0 e p b n : Int) (l : List ByteArray) (fr : Bool) (x1 x2 x3 : Int) (x4 : ByteArray) : Option (Int × Int × Int × Int × List ByteArray × List ByteArray × Bool × Int) :=
  if x1 = e0 then (spec_l05Hear.ack b l x3).bind fun y => if x2 = wrap64 (n + 1) then some (e, p, y.1, x2, y.2, [x4], fr, 0) else some (e, p, y.1, n, y.2, [], fr, 0)
  else some (e, p, b, n, l, [], fr, 0)
def spec_l05Hear.f (a0_0 a0_1 a0_2 a0_3 : Int) (l0_4 : List ByteArray) (a1_0 a1_1 a1_2 a1_3 : Int) (a1_4 : ByteArray) : Option (Int × Int × Int × Int × List ByteArray × List ByteArray × Bool × Int) :=
  (spec_l05Copy.f a0_0 a0_1 a0_2 a0_3 l0_4).bind fun y =>
  if a1_0 < a0_1 then some (y.1, y.2.1, y.2.2.1, y.2.2.2.1, y.2.2.2.2, [], false, 0) else
  if a0_1 < a1_0 then spec_l05Hear.go a0_0 a0_0 a1_0 0 0 [] true a1_1 a1_2 a1_3 a1_4 else
  spec_l05Hear.go a0_0 y.1 y.2.1 y.2.2.1 y.2.2.2.1 y.2.2.2.2 false a1_1 a1_2 a1_3 a1_4
structure spec_l05Hear.HS (w W : World) (g : Nat) (a0_0 a0_1 a0_2 a0_3 : Int) (A0_4 : Option Addr) (c0_4 : Nat) (l0_4 : List ByteArray) (a1_0 a1_1 a1_2 a1_3 : Int) (a1_4 : ByteArray) (e p b n : Int) (A : Option Addr) (c : Nat) (l : List ByteArray) (fr : Bool) : Prop where
  bp : W.heap[w.heap.size]? = some (.cells #[.int .i64 a0_0, .int .i64 a0_1, .int .i64 a0_2, .int .i64 a0_3, .slice A0_4 l0_4.length c0_4] 24 (0, 0))
  bx : W.heap[w.heap.size + 1]? = some (.cells #[.int .i64 a1_0, .int .i64 a1_1, .int .i64 a1_2, .int .i64 a1_3, .string a1_4] 35 (0, 0))
  bo : W.heap[w.heap.size + 1 + 1]? = some (.cells #[.int .i64 0, .int .i64 0, .int .i64 0, .int .i64 0, .slice none 0 0, .slice none 0 0, .bool false, .int .i64 0] 26 (0, 0))
  b5 : W.heap[g]? = some (.cells #[.int .i64 e, .int .i64 p, .int .i64 b, .int .i64 n, .slice A l.length c, .slice none 0 0, .bool fr, .int .i64 0] 26 (0, 0))
  ho : Kd.R Kd.string 9 W w.heap.size (fun _ => True) (.slice A l.length c) l
  hl : w.heap.size + 1 + 1 < g
  bl : Below w.heap.size w W
theorem spec_l05Hear.HS.below {w W W1 : World} {g : Nat} {a0_0 a0_1 a0_2 a0_3 : Int} {A0_4 : Option Addr} {c0_4 : Nat} {l0_4 : List ByteArray} {a1_0 a1_1 a1_2 a1_3 : Int} {a1_4 : ByteArray} {e p b n : Int} {A : Option Addr} {c : Nat} {l : List ByteArray} {fr : Bool} (h : spec_l05Hear.HS w W g a0_0 a0_1 a0_2 a0_3 A0_4 c0_4 l0_4 a1_0 a1_1 a1_2 a1_3 a1_4 e p b n A c l fr) (hb : Below W.heap.size W W1) : spec_l05Hear.HS w W1 g a0_0 a0_1 a0_2 a0_3 A0_4 c0_4 l0_4 a1_0 a1_1 a1_2 a1_3 a1_4 e p b n A c l fr :=
  ⟨blk_below h.bp hb, blk_below h.bx hb, blk_below h.bo hb, blk_below h.b5 hb, Kd.R_below h.ho hb, h.hl, below_step h.bl hb⟩
theorem spec_l05Hear.HS.drewN {w W : World} {g : Nat} {a0_0 a0_1 a0_2 a0_3 : Int} {A0_4 : Option Addr} {c0_4 : Nat} {l0_4 : List ByteArray} {a1_0 a1_1 a1_2 a1_3 : Int} {a1_4 : ByteArray} {e p b n : Int} {A : Option Addr} {c : Nat} {l : List ByteArray} {fr : Bool} (h : spec_l05Hear.HS w W g a0_0 a0_1 a0_2 a0_3 A0_4 c0_4 l0_4 a1_0 a1_1 a1_2 a1_3 a1_4 e p b n A c l fr) (m : Nat) : spec_l05Hear.HS w (W.drewN m) g a0_0 a0_1 a0_2 a0_3 A0_4 c0_4 l0_4 a1_0 a1_1 a1_2 a1_3 a1_4 e p b n A c l fr := h.below (pw_below_drewN (Below.refl _ _) m)
/-- A store into the result under way. -/
theorem spec_l05Hear.HS.store {w W : World} {g : Nat} {a0_0 a0_1 a0_2 a0_3 : Int} {A0_4 : Option Addr} {c0_4 : Nat} {l0_4 : List ByteArray} {a1_0 a1_1 a1_2 a1_3 : Int} {a1_4 : ByteArray} {e p b n : Int} {A : Option Addr} {c : Nat} {l : List ByteArray} {fr : Bool} (h : spec_l05Hear.HS w W g a0_0 a0_1 a0_2 a0_3 A0_4 c0_4 l0_4 a1_0 a1_1 a1_2 a1_3 a1_4 e p b n A c l fr) (j : Nat) (u : Value) (cs : Array Value) (hcs : (#[.int .i64 e, .int .i64 p, .int .i64 b, .int .i64 n, .slice A l.length c, .slice none 0 0, .bool fr, .int .i64 0] : Array Value).setIfInBounds j u = cs) :
    (W.setCell ⟨g, j, none⟩ u).heap[w.heap.size]? = some (.cells #[.int .i64 a0_0, .int .i64 a0_1, .int .i64 a0_2, .int .i64 a0_3, .slice A0_4 l0_4.length c0_4] 24 (0, 0)) ∧ (W.setCell ⟨g, j, none⟩ u).heap[w.heap.size + 1]? = some (.cells #[.int .i64 a1_0, .int .i64 a1_1, .int .i64 a1_2, .int .i64 a1_3, .string a1_4] 35 (0, 0)) ∧ (W.setCell ⟨g, j, none⟩ u).heap[w.heap.size + 1 + 1]? = some (.cells #[.int .i64 0, .int .i64 0, .int .i64 0, .int .i64 0, .slice none 0 0, .slice none 0 0, .bool false, .int .i64 0] 26 (0, 0)) ∧ (W.setCell ⟨g, j, none⟩ u).heap[g]? = some (.cells cs 26 (0, 0)) ∧ Kd.R Kd.string 9 (W.setCell ⟨g, j, none⟩ u) w.heap.size (fun _ => True) (.slice A l.length c) l ∧ Below w.heap.size w (W.setCell ⟨g, j, none⟩ u) := by
  have hl := h.hl
  exact ⟨blk_far h.bp (by show w.heap.size ≠ g; omega) u, blk_far h.bx (by show w.heap.size + 1 ≠ g; omega) u, blk_far h.bo (by show w.heap.size + 1 + 1 ≠ g; omega) u, blk_put h.b5 j u hcs, Kd.R_mono (Kd.R_far (p := ⟨g, j, none⟩) (Kd.R_types h.ho h.b5 (by decide)) (fun _ hk => hk.2) u) (fun _ _ => trivial), below_set h.bl (by omega)⟩
theorem spec_l05Hear.HS.fresh {w W : World} {g : Nat} {a0_0 a0_1 a0_2 a0_3 : Int} {A0_4 : Option Addr} {c0_4 : Nat} {l0_4 : List ByteArray} {a1_0 a1_1 a1_2 a1_3 : Int} {a1_4 : ByteArray} {e p b n : Int} {A : Option Addr} {c : Nat} {l : List ByteArray} {fr : Bool} (h : spec_l05Hear.HS w W g a0_0 a0_1 a0_2 a0_3 A0_4 c0_4 l0_4 a1_0 a1_1 a1_2 a1_3 a1_4 e p b n A c l fr) : spec_l05Hear.HS w (W.setCell ⟨g, 6, none⟩ (.bool true)) g a0_0 a0_1 a0_2 a0_3 A0_4 c0_4 l0_4 a1_0 a1_1 a1_2 a1_3 a1_4 e p b n A c l true := by
  obtain ⟨h1, h2, h3, h4, h5, h6⟩ := h.store 6 (.bool true) _ rfl
  exact ⟨h1, h2, h3, h4, h5, h.hl, h6⟩
theorem spec_l05Hear.HS.se {w W : World} {g : Nat} {a0_0 a0_1 a0_2 a0_3 : Int} {A0_4 : Option Addr} {c0_4 : Nat} {l0_4 : List ByteArray} {a1_0 a1_1 a1_2 a1_3 : Int} {a1_4 : ByteArray} {e p b n : Int} {A : Option Addr} {c : Nat} {l : List ByteArray} {fr : Bool} (h : spec_l05Hear.HS w W g a0_0 a0_1 a0_2 a0_3 A0_4 c0_4 l0_4 a1_0 a1_1 a1_2 a1_3 a1_4 e p b n A c l fr) (x : Int) : spec_l05Hear.HS w (W.setCell ⟨g, 0, none⟩ (.int .i64 x)) g a0_0 a0_1 a0_2 a0_3 A0_4 c0_4 l0_4 a1_0 a1_1 a1_2 a1_3 a1_4 x p b n A c l fr := by
  obtain ⟨h1, h2, h3, h4, h5, h6⟩ := h.store 0 (.int .i64 x) _ rfl
  exact ⟨h1, h2, h3, h4, h5, h.hl, h6⟩
theorem spec_l05Hear.HS.sp {w W : World} {g : Nat} {a0_0 a0_1 a0_2 a0_3 : Int} {A0_4 : Option Addr} {c0_4 : Nat} {l0_4 : List ByteArray} {a1_0 a1_1 a1_2 a1_3 : Int} {a1_4 : ByteArray} {e p b n : Int} {A : Option Addr} {c : Nat} {l : List ByteArray} {fr : Bool} (h : spec_l05Hear.HS w W g a0_0 a0_1 a0_2 a0_3 A0_4 c0_4 l0_4 a1_0 a1_1 a1_2 a1_3 a1_4 e p b n A c l fr) (x : Int) : spec_l05Hear.HS w (W.setCell ⟨g, 1, none⟩ (.int .i64 x)) g a0_0 a0_1 a0_2 a0_3 A0_4 c0_4 l0_4 a1_0 a1_1 a1_2 a1_3 a1_4 e x b n A c l fr := by
  obtain ⟨h1, h2, h3, h4, h5, h6⟩ := h.store 1 (.int .i64 x) _ rfl
  exact ⟨h1, h2, h3, h4, h5, h.hl, h6⟩
theorem spec_l05Hear.HS.sb {w W : World} {g : Nat} {a0_0 a0_1 a0_2 a0_3 : Int} {A0_4 : Option Addr} {c0_4 : Nat} {l0_4 : List ByteArray} {a1_0 a1_1 a1_2 a1_3 : Int} {a1_4 : ByteArray} {e p b n : Int} {A : Option Addr} {c : Nat} {l : List ByteArray} {fr : Bool} (h : spec_l05Hear.HS w W g a0_0 a0_1 a0_2 a0_3 A0_4 c0_4 l0_4 a1_0 a1_1 a1_2 a1_3 a1_4 e p b n A c l fr) (x : Int) : spec_l05Hear.HS w (W.setCell ⟨g, 2, none⟩ (.int .i64 x)) g a0_0 a0_1 a0_2 a0_3 A0_4 c0_4 l0_4 a1_0 a1_1 a1_2 a1_3 a1_4 e p x n A c l fr := by
  obtain ⟨h1, h2, h3, h4, h5, h6⟩ := h.store 2 (.int .i64 x) _ rfl
  exact ⟨h1, h2, h3, h4, h5, h.hl, h6⟩
theorem spec_l05Hear.HS.sn {w W : World} {g : Nat} {a0_0 a0_1 a0_2 a0_3 : Int} {A0_4 : Option Addr} {c0_4 : Nat} {l0_4 : List ByteArray} {a1_0 a1_1 a1_2 a1_3 : Int} {a1_4 : ByteArray} {e p b n : Int} {A : Option Addr} {c : Nat} {l : List ByteArray} {fr : Bool} (h : spec_l05Hear.HS w W g a0_0 a0_1 a0_2 a0_3 A0_4 c0_4 l0_4 a1_0 a1_1 a1_2 a1_3 a1_4 e p b n A c l fr) (x : Int) : spec_l05Hear.HS w (W.setCell ⟨g, 3, none⟩ (.int .i64 x)) g a0_0 a0_1 a0_2 a0_3 A0_4 c0_4 l0_4 a1_0 a1_1 a1_2 a1_3 a1_4 e p b x A c l fr := by
  obtain ⟨h1, h2, h3, h4, h5, h6⟩ := h.store 3 (.int .i64 x) _ rfl
  exact ⟨h1, h2, h3, h4, h5, h.hl, h6⟩
theorem spec_l05Hear.HS.nil {w W : World} {g : Nat} {a0_0 a0_1 a0_2 a0_3 : Int} {A0_4 : Option Addr} {c0_4 : Nat} {l0_4 : List ByteArray} {a1_0 a1_1 a1_2 a1_3 : Int} {a1_4 : ByteArray} {e p b n : Int} {A : Option Addr} {c : Nat} {l : List ByteArray} {fr : Bool} (h : spec_l05Hear.HS w W g a0_0 a0_1 a0_2 a0_3 A0_4 c0_4 l0_4 a1_0 a1_1 a1_2 a1_3 a1_4 e p b n A c l fr) : spec_l05Hear.HS w (W.setCell ⟨g, 4, none⟩ (.slice none 0 0)) g a0_0 a0_1 a0_2 a0_3 A0_4 c0_4 l0_4 a1_0 a1_1 a1_2 a1_3 a1_4 e p b n none 0 [] fr := by
  obtain ⟨h1, h2, h3, h4, h5, h6⟩ := h.store 4 (.slice none 0 0) _ rfl
  exact ⟨h1, h2, h3, h4, Kd.R_nil _ _ _ _ _, h.hl, h6⟩
theorem spec_l05Hear.HS.row {w W : World} {g : Nat} {a0_0 a0_1 a0_2 a0_3 : Int} {A0_4 : Option Addr} {c0_4 : Nat} {l0_4 : List ByteArray} {a1_0 a1_1 a1_2 a1_3 : Int} {a1_4 : ByteArray} {e p b n : Int} {A : Option Addr} {c : Nat} {l : List ByteArray} {fr : Bool} {A1 : Option Addr} {c1 : Nat} {l1 : List ByteArray} (h : spec_l05Hear.HS w W g a0_0 a0_1 a0_2 a0_3 A0_4 c0_4 l0_4 a1_0 a1_1 a1_2 a1_3 a1_4 e p b n A c l fr) (h1 : Kd.R Kd.string 9 W w.heap.size (fun _ => True) (.slice A1 l1.length c1) l1) : spec_l05Hear.HS w (W.setCell ⟨g, 4, none⟩ (.slice A1 l1.length c1)) g a0_0 a0_1 a0_2 a0_3 A0_4 c0_4 l0_4 a1_0 a1_1 a1_2 a1_3 a1_4 e p b n A1 c1 l1 fr := by
  obtain ⟨q1, q2, q3, q4, _, q6⟩ := h.store 4 (.slice A1 l1.length c1) _ rfl
  exact ⟨q1, q2, q3, q4, Kd.R_mono (Kd.R_far (p := ⟨g, 4, none⟩) (Kd.R_types h1 h.b5 (by decide)) (fun _ hk => hk.2) _) (fun _ _ => trivial), h.hl, q6⟩
theorem spec_l05Hear.gen {P : Program} {c : Code} {Q : Exit → Act → World → Prop} {a : Act} {W : World} (p : World → Prop) (h : p W) (k : ∀ W1, p W1 → Code.wp P c Q a W1) : Code.wp P c Q a W := k W h
theorem spec_l05Hear.fin {W : World} {g : Nat} {o0 o1 o2 o3 o4 o5 o6 o7 : Value} (h : W.heap[g]? = some (.cells #[o0, o1, o2, o3, o4, o5, o6, o7] 26 (0, 0))) (v0 v1 v2 v3 v4 v5 v6 v7 : Value) : ((((((((W.setCell ⟨g, 0, none⟩ v0).setCell ⟨g, 1, none⟩ v1).setCell ⟨g, 2, none⟩ v2).setCell ⟨g, 3, none⟩ v3).setCell ⟨g, 4, none⟩ v4).setCell ⟨g, 5, none⟩ v5).setCell ⟨g, 6, none⟩ v6).setCell ⟨g, 7, none⟩ v7).heap[g]? = some (.cells #[v0, v1, v2, v3, v4, v5, v6, v7] 26 (0, 0)) := by
  have h1 := blk_set h 0 v0
  have h2 := blk_set h1 1 v1
  have h3 := blk_set h2 2 v2
  have h4 := blk_set h3 3 v3
  have h5 := blk_set h4 4 v4
  have h6 := blk_set h5 5 v5
  have h7 := blk_set h6 6 v6
  have h8 := blk_set h7 7 v7
  simpa using h8
theorem spec_l05Hear.set8 {w W : World} {g : Nat} (hg : w.heap.size ≤ g) (h : Below w.heap.size w W) (v0 v1 v2 v3 v4 v5 v6 v7 : Value) : Below w.heap.size w ((((((((W.setCell ⟨g, 0, none⟩ v0).setCell ⟨g, 1, none⟩ v1).setCell ⟨g, 2, none⟩ v2).setCell ⟨g, 3, none⟩ v3).setCell ⟨g, 4, none⟩ v4).setCell ⟨g, 5, none⟩ v5).setCell ⟨g, 6, none⟩ v6).setCell ⟨g, 7, none⟩ v7) := (below_set (below_set (below_set (below_set (below_set (below_set (below_set (below_set h hg) hg) hg) hg) hg) hg) hg) hg)
theorem spec_l05Hear.row8 {W : World} {g base : Nat} {ok : Nat → Prop} {v : Value} {l : List ByteArray} {cs : Array Value} (hb : W.heap[g]? = some (.cells cs 26 (0, 0))) (h : Kd.R Kd.string 9 W base ok v l) (v0 v1 v2 v3 v4 v5 v6 v7 : Value) : Kd.R Kd.string 9 ((((((((W.setCell ⟨g, 0, none⟩ v0).setCell ⟨g, 1, none⟩ v1).setCell ⟨g, 2, none⟩ v2).setCell ⟨g, 3, none⟩ v3).setCell ⟨g, 4, none⟩ v4).setCell ⟨g, 5, none⟩ v5).setCell ⟨g, 6, none⟩ v6).setCell ⟨g, 7, none⟩ v7) base ok v l := Kd.R_mono (Kd.R_far (p := ⟨g, 7, none⟩) (Kd.R_far (p := ⟨g, 6, none⟩) (Kd.R_far (p := ⟨g, 5, none⟩) (Kd.R_far (p := ⟨g, 4, none⟩) (Kd.R_far (p := ⟨g, 3, none⟩) (Kd.R_far (p := ⟨g, 2, none⟩) (Kd.R_far (p := ⟨g, 1, none⟩) (Kd.R_far (p := ⟨g, 0, none⟩) (Kd.R_types h hb (by decide)) (fun _ hk => hk.2) _) (fun _ hk => hk.2) _) (fun _ hk => hk.2) _) (fun _ hk => hk.2) _) (fun _ hk => hk.2) _) (fun _ hk => hk.2) _) (fun _ hk => hk.2) _) (fun _ hk => hk.2) _) (fun _ hk => hk.1)
theorem spec_l05Hear.ofacts {W : World} {g : Nat} (h : W.heap[g]? = some (.cells #[.int .i64 0, .int .i64 0, .int .i64 0, .int .i64 0, .slice none 0 0, .slice none 0 0, .bool false, .int .i64 0] 26 (0, 0))) :
    W.cell? ⟨g, 0, none⟩ = some (.int .i64 0) ∧ W.cell? ⟨g, 1, none⟩ = some (.int .i64 0) ∧ W.cell? ⟨g, 2, none⟩ = some (.int .i64 0) ∧ W.cell? ⟨g, 3, none⟩ = some (.int .i64 0) ∧ W.cell? ⟨g, 4, none⟩ = some (.slice none 0 0) ∧ W.cell? ⟨g, 5, none⟩ = some (.slice none 0 0) ∧ W.cell? ⟨g, 6, none⟩ = some (.bool false) ∧ W.cell? ⟨g, 7, none⟩ = some (.int .i64 0) ∧ W.frozen? ⟨g, 0, none⟩ = false ∧ W.frozen? ⟨g, 1, none⟩ = false ∧ W.frozen? ⟨g, 2, none⟩ = false ∧ W.frozen? ⟨g, 3, none⟩ = false ∧ W.frozen? ⟨g, 4, none⟩ = false ∧ W.frozen? ⟨g, 5, none⟩ = false ∧ W.frozen? ⟨g, 6, none⟩ = false ∧ W.frozen? ⟨g, 7, none⟩ = false :=
  ⟨(blk_cell h 0).trans rfl, (blk_cell h 1).trans rfl, (blk_cell h 2).trans rfl, (blk_cell h 3).trans rfl, (blk_cell h 4).trans rfl, (blk_cell h 5).trans rfl, (blk_cell h 6).trans rfl, (blk_cell h 7).trans rfl, blk_frozen h 0, blk_frozen h 1, blk_frozen h 2, blk_frozen h 3, blk_frozen h 4, blk_frozen h 5, blk_frozen h 6, blk_frozen h 7⟩
theorem spec_l05Hear.three (w : World) (pc xc : Array Value) : (((w.alloc (.cells pc 24)).alloc (.cells xc 35)).alloc (.cells #[.int .i64 0, .int .i64 0, .int .i64 0, .int .i64 0, .slice none 0 0, .slice none 0 0, .bool false, .int .i64 0] 26)).heap[w.heap.size]? = some (.cells pc 24 (0, 0)) ∧ (((w.alloc (.cells pc 24)).alloc (.cells xc 35)).alloc (.cells #[.int .i64 0, .int .i64 0, .int .i64 0, .int .i64 0, .slice none 0 0, .slice none 0 0, .bool false, .int .i64 0] 26)).heap[w.heap.size + 1]? = some (.cells xc 35 (0, 0)) ∧ (((w.alloc (.cells pc 24)).alloc (.cells xc 35)).alloc (.cells #[.int .i64 0, .int .i64 0, .int .i64 0, .int .i64 0, .slice none 0 0, .slice none 0 0, .bool false, .int .i64 0] 26)).heap[w.heap.size + 1 + 1]? = some (.cells #[.int .i64 0, .int .i64 0, .int .i64 0, .int .i64 0, .slice none 0 0, .slice none 0 0, .bool false, .int .i64 0] 26 (0, 0)) ∧ Below w.heap.size w (((w.alloc (.cells pc 24)).alloc (.cells xc 35)).alloc (.cells #[.int .i64 0, .int .i64 0, .int .i64 0, .int .i64 0, .slice none 0 0, .slice none 0 0, .bool false, .int .i64 0] 26)) :=
  ⟨blk_alloc (blk_alloc (blk_new w _) _) _, blk_alloc (by simpa using heap_alloc_new (w.alloc (.cells pc 24)) (.cells xc 35)) _, by simpa using heap_alloc_new ((w.alloc (.cells pc 24)).alloc (.cells xc 35)) (.cells #[.int .i64 0, .int .i64 0, .int .i64 0, .int .i64 0, .slice none 0 0, .slice none 0 0, .bool false, .int .i64 0] 26), below_alloc (below_alloc (below_alloc (Below.refl _ _) _) _) _⟩
theorem spec_l05Hear.tab11 : rtab .any (opsOf Try.f134 11) = rtab .any (opsOf Try.f134 11) := rfl
theorem spec_l05Hear.copy0 {a0 a1 a2 a3 y0 y1 y2 y3 : Int} {l m : List ByteArray} (h : spec_l05Copy.f a0 a1 a2 a3 l = some (y0, y1, y2, y3, m)) : y0 = a0 := by
  unfold spec_l05Copy.f at h
  rw [Option.bind_some] at h
  split at h
  · simp only [Option.some.injEq, Prod.mk.injEq] at h
    exact h.1.symm
  · cases h
theorem spec_l05Hear.HS.held {w W : World} {g : Nat} {a0_0 a0_1 a0_2 a0_3 : Int} {A0_4 : Option Addr} {c0_4 : Nat} {l0_4 : List ByteArray} {a1_0 a1_1 a1_2 a1_3 : Int} {a1_4 : ByteArray} {e p b n : Int} {A : Option Addr} {c : Nat} {l : List ByteArray} {fr : Bool} (h : spec_l05Hear.HS w W g a0_0 a0_1 a0_2 a0_3 A0_4 c0_4 l0_4 a1_0 a1_1 a1_2 a1_3 a1_4 e p b n A c l fr) : W.cell? ⟨w.heap.size + 1, 3, none⟩ = some (.int .i64 a1_3) ∧ W.cell? ⟨g, 2, none⟩ = some (.int .i64 b) ∧ W.cell? ⟨g, 4, none⟩ = some (.slice A l.length c) :=
  ⟨(blk_cell h.bx 3).trans rfl, (blk_cell h.b5 2).trans rfl, (blk_cell h.b5 4).trans rfl⟩
theorem spec_l05Hear.HS.drew {w W : World} {g : Nat} {a0_0 a0_1 a0_2 a0_3 : Int} {A0_4 : Option Addr} {c0_4 : Nat} {l0_4 : List ByteArray} {a1_0 a1_1 a1_2 a1_3 : Int} {a1_4 : ByteArray} {e p b n : Int} {A : Option Addr} {c : Nat} {l : List ByteArray} {fr : Bool} (h : spec_l05Hear.HS w W g a0_0 a0_1 a0_2 a0_3 A0_4 c0_4 l0_4 a1_0 a1_1 a1_2 a1_3 a1_4 e p b n A c l fr) : spec_l05Hear.HS w W.drew g a0_0 a0_1 a0_2 a0_3 A0_4 c0_4 l0_4 a1_0 a1_1 a1_2 a1_3 a1_4 e p b n A c l fr := h.below (below_drew1 (Below.refl _ _))
theorem spec_l05Hear.grownNone {W W1 : World} (h : W.grownBy W1 none) : Below W.heap.size W W1 := ⟨h.os, h.tape, h.output, h.size, fun k hk => h.block k hk (by simp)⟩
theorem spec_l05Hear.HS.grown {w W W1 : World} {g : Nat} {a0_0 a0_1 a0_2 a0_3 : Int} {A0_4 : Option Addr} {c0_4 : Nat} {l0_4 : List ByteArray} {a1_0 a1_1 a1_2 a1_3 : Int} {a1_4 : ByteArray} {e p b n : Int} {A : Option Addr} {c : Nat} {l : List ByteArray} {fr : Bool} {v : Value} {m : List ByteArray} (h : spec_l05Hear.HS w W g a0_0 a0_1 a0_2 a0_3 A0_4 c0_4 l0_4 a1_0 a1_1 a1_2 a1_3 a1_4 e p b n A c l fr) (hv : Kd.R Kd.string 9 W w.heap.size (fun k => True) v m) (hn : ∀ k, v.ownBlock = some k → some k ≠ (Value.slice A l.length c).ownBlock) (hg : W.grownBy W1 v.ownBlock) (hb : Below w.heap.size w W1) : spec_l05Hear.HS w W1 g a0_0 a0_1 a0_2 a0_3 A0_4 c0_4 l0_4 a1_0 a1_1 a1_2 a1_3 a1_4 e p b n A c l fr :=
  ⟨blk_grown h.bp hg (Kd.R_ne hv h.bp (by decide)), blk_grown h.bx hg (Kd.R_ne hv h.bx (by decide)), blk_grown h.bo hg (Kd.R_ne hv h.bo (by decide)), blk_grown h.b5 hg (Kd.R_ne hv h.b5 (by decide)), Kd.R_mono (Kd.R_grown2 h.ho rfl hg (fun k hk => hn k hk)) (fun _ _ => trivial), h.hl, hb⟩
theorem spec_l05Hear.cut (A : Option Addr) (c : Nat) (l : List ByteArray) (j : Int) (h0 : 0 ≤ j) (h1 : j ≤ l.length) (hc : l.length ≤ c) : ∃ A' : Option Addr, (∀ W : World, (Instr.slice 22 (.slice A l.length c) (some (.int .i64 j)) none none).run Try.prog W = .ok (.slice A' (l.drop j.toNat).length (c - j.toNat)) W) ∧ (∀ w : World, Kd.C Kd.string w A l.length l → Kd.C Kd.string w A' (l.drop j.toNat).length (l.drop j.toNat)) ∧ (l.drop j.toNat).length ≤ c - j.toNat := by
  obtain ⟨i0, hi, hzz⟩ := Option.map_eq_some_iff.1 info9
  simp only [Prod.mk.injEq] at hzz
  obtain ⟨A', h1, h2, h3⟩ := print_drop_of (P := Try.prog) Value.string ByteArray.empty 22 9 .i64 Try.underlying22 hi hzz.2.1 A c l j h0 h1 hc
  exact ⟨A', h1, fun w h => Kd.C_of_reads (d := ByteArray.empty) (h1 := fun _ => rfl) (h2 w (Kd.reads_of_C (h1 := fun _ => rfl) h)), h3⟩
theorem spec_l05Hear.lit1 (V : World) (t : ByteArray) (base : Nat) (hb : base ≤ V.heap.size) : Kd.R Kd.string 9 (V.alloc (.cells #[.string t] 9)) base (fun k => k = V.heap.size) (.slice (some ⟨V.heap.size, 0, none⟩) 1 1) [t] :=
  ⟨fun k hk => by simp only [Value.ownBlock, Option.some.injEq] at hk; exact hk.symm, [.string t], World.ownsRow_lit V #[.string t] 1 hb (by decide) rfl, Reps.one rfl (Reps.none _ _)⟩
theorem spec_l05Hear.texts {w V : World} {g : Nat} {a0_0 a0_1 a0_2 a0_3 : Int} {A0_4 : Option Addr} {c0_4 : Nat} {l0_4 : List ByteArray} {a1_0 a1_1 a1_2 a1_3 : Int} {a1_4 : ByteArray} {e p b n : Int} {A : Option Addr} {c : Nat} {l : List ByteArray} {fr : Bool} (h : spec_l05Hear.HS w V g a0_0 a0_1 a0_2 a0_3 A0_4 c0_4 l0_4 a1_0 a1_1 a1_2 a1_3 a1_4 e p b n A c l fr) : ((V.alloc (.cells #[.string a1_4] 9)).setCell ⟨g, 5, none⟩ (.slice (some ⟨V.heap.size, 0, none⟩) 1 1)).heap[w.heap.size + 1 + 1]? = some (.cells #[.int .i64 0, .int .i64 0, .int .i64 0, .int .i64 0, .slice none 0 0, .slice none 0 0, .bool false, .int .i64 0] 26 (0, 0)) ∧ ((V.alloc (.cells #[.string a1_4] 9)).setCell ⟨g, 5, none⟩ (.slice (some ⟨V.heap.size, 0, none⟩) 1 1)).heap[g]? = some (.cells #[.int .i64 e, .int .i64 p, .int .i64 b, .int .i64 n, .slice A l.length c, .slice (some ⟨V.heap.size, 0, none⟩) 1 1, .bool fr, .int .i64 0] 26 (0, 0)) ∧ Kd.R Kd.string 9 ((V.alloc (.cells #[.string a1_4] 9)).setCell ⟨g, 5, none⟩ (.slice (some ⟨V.heap.size, 0, none⟩) 1 1)) w.heap.size (fun k_ => some k_ ≠ (Value.slice (some ⟨V.heap.size, 0, none⟩) 1 1).ownBlock) (.slice A l.length c) l ∧ Kd.R Kd.string 9 ((V.alloc (.cells #[.string a1_4] 9)).setCell ⟨g, 5, none⟩ (.slice (some ⟨V.heap.size, 0, none⟩) 1 1)) w.heap.size (fun k_ => some k_ ≠ (Value.slice A l.length c).ownBlock) (.slice (some ⟨V.heap.size, 0, none⟩) 1 1) [a1_4] ∧ Below w.heap.size w ((V.alloc (.cells #[.string a1_4] 9)).setCell ⟨g, 5, none⟩ (.slice (some ⟨V.heap.size, 0, none⟩) 1 1)) := by
  have hl := h.hl
  have hb := blk_alloc h.b5 (.cells #[.string a1_4] 9)
  have z3 := Kd.R_far (p := ⟨g, 5, none⟩) (Kd.R_types (Kd.R_alloc (Kd.R_bound h.ho) (.cells #[.string a1_4] 9)) hb (by decide)) (fun _ hk => hk.2) (.slice (some ⟨V.heap.size, 0, none⟩) 1 1)
  have y3 := Kd.R_far (p := ⟨g, 5, none⟩) (Kd.R_types (spec_l05Hear.lit1 V a1_4 w.heap.size h.bl.size) hb (by decide)) (fun _ hk => hk.2) (.slice (some ⟨V.heap.size, 0, none⟩) 1 1)
  have hlt : ∀ k, (Value.slice A l.length c).ownBlock = some k → k < V.heap.size := fun k hk => ((Kd.R_bound h.ho).1 k hk).2.2.1
  refine ⟨blk_far (blk_alloc h.bo _) (by show w.heap.size + 1 + 1 ≠ g; omega) _, blk_put hb 5 _ rfl, Kd.R_mono z3 (fun k hk => ?_), Kd.R_mono y3 (fun k hk => ?_), below_set (below_alloc h.bl _) (by omega)⟩
  · have := hk.1.2.2.1
    simp only [Value.ownBlock, ne_eq, Option.some.injEq]
    omega
  · intro e_
    have := hlt k e_.symm
    have := hk.1
    omega
theorem spec_l05Hear.swap (V : World) (g j : Nat) (u : Value) (o : Obj) (hg : g < V.heap.size) : (V.setCell ⟨g, j, none⟩ u).alloc o = (V.alloc o).setCell ⟨g, j, none⟩ u := by
  simp only [World.setCell, World.alloc]
  congr 1
  apply Array.ext_getElem?
  intro i
  rw [Array.getElem?_push, Array.getElem?_modify, Array.getElem?_modify, Array.getElem?_push, Array.size_modify]
  by_cases h1 : i = V.heap.size
  · rw [if_pos h1, if_neg (by omega), if_pos h1]
  · rw [if_neg h1, if_neg h1]
theorem spec_l05Hear.texts2 {w V : World} {g : Nat} {a0_0 a0_1 a0_2 a0_3 : Int} {A0_4 : Option Addr} {c0_4 : Nat} {l0_4 : List ByteArray} {a1_0 a1_1 a1_2 a1_3 : Int} {a1_4 : ByteArray} {e p b n : Int} {A : Option Addr} {c : Nat} {l : List ByteArray} {fr : Bool} (h : spec_l05Hear.HS w V g a0_0 a0_1 a0_2 a0_3 A0_4 c0_4 l0_4 a1_0 a1_1 a1_2 a1_3 a1_4 e p b n A c l fr) : ((V.setCell ⟨g, 5, none⟩ (.slice (some ⟨V.heap.size, 0, none⟩) 1 1)).alloc (.cells #[.string a1_4] 9)).heap[w.heap.size + 1 + 1]? = some (.cells #[.int .i64 0, .int .i64 0, .int .i64 0, .int .i64 0, .slice none 0 0, .slice none 0 0, .bool false, .int .i64 0] 26 (0, 0)) ∧ ((V.setCell ⟨g, 5, none⟩ (.slice (some ⟨V.heap.size, 0, none⟩) 1 1)).alloc (.cells #[.string a1_4] 9)).heap[g]? = some (.cells #[.int .i64 e, .int .i64 p, .int .i64 b, .int .i64 n, .slice A l.length c, .slice (some ⟨V.heap.size, 0, none⟩) 1 1, .bool fr, .int .i64 0] 26 (0, 0)) ∧ Kd.R Kd.string 9 ((V.setCell ⟨g, 5, none⟩ (.slice (some ⟨V.heap.size, 0, none⟩) 1 1)).alloc (.cells #[.string a1_4] 9)) w.heap.size (fun k_ => some k_ ≠ (Value.slice (some ⟨V.heap.size, 0, none⟩) 1 1).ownBlock) (.slice A l.length c) l ∧ Kd.R Kd.string 9 ((V.setCell ⟨g, 5, none⟩ (.slice (some ⟨V.heap.size, 0, none⟩) 1 1)).alloc (.cells #[.string a1_4] 9)) w.heap.size (fun k_ => some k_ ≠ (Value.slice A l.length c).ownBlock) (.slice (some ⟨V.heap.size, 0, none⟩) 1 1) [a1_4] ∧ Below w.heap.size w ((V.setCell ⟨g, 5, none⟩ (.slice (some ⟨V.heap.size, 0, none⟩) 1 1)).alloc (.cells #[.string a1_4] 9)) := by
  rw [spec_l05Hear.swap V g 5 _ _ (blk_lt h.b5)]
  exact spec_l05Hear.texts h
set_option maxHeartbeats 3200000 in
set_option maxRecDepth 100000 in
theorem spec_l05Hear.calls (a0_0 : Int) (a0_1 : Int) (a0_2 : Int) (a0_3 : Int) (A0_4 : Option Addr) (c0_4 : Nat) (l0_4 : List ByteArray) (a1_0 : Int) (a1_1 : Int) (a1_2 : Int) (a1_3 : Int) (a1_4 : ByteArray) (r1 : Int) (r2 : Int) (r3 : Int) (r4 : Int) (r5 : List ByteArray) (r6 : List ByteArray) (r7 : Bool) (r8 : Int) (w : World) (hr0_4 : Kd.C Kd.string w A0_4 l0_4.length l0_4) (hc0_4 : l0_4.length ≤ c0_4) (h : spec_l05Hear.f a0_0 a0_1 a0_2 a0_3 l0_4 a1_0 a1_1 a1_2 a1_3 a1_4 = some (r1, r2, r3, r4, r5, r6, r7, r8)) :
    Calls Try.prog 134 #[.agg #[.int .i64 a0_0, .int .i64 a0_1, .int .i64 a0_2, .int .i64 a0_3, .slice A0_4 l0_4.length c0_4], .agg #[.int .i64 a1_0, .int .i64 a1_1, .int .i64 a1_2, .int .i64 a1_3, .string a1_4]] w fun e w' => ∃ v4_ v5_ : Value, e = .returned (.agg #[.int .i64 r1, .int .i64 r2, .int .i64 r3, .int .i64 r4, v4_, v5_, .bool r7, .int .i64 r8]) ∧ Kd.R Kd.string 9 w' w.heap.size (fun k_ => some k_ ≠ (v5_ : Value).ownBlock) v4_ r5 ∧ Kd.R Kd.string 9 w' w.heap.size (fun k_ => some k_ ≠ (v4_ : Value).ownBlock) v5_ r6 ∧ Below w.heap.size w w' := by
  have hu24 := Try.underlying24
  have hu26 := Try.underlying26
  have hu35 := Try.underlying35
  unfold spec_l05Hear.f at h
  have HR := Aside0.mk hr0_4
  have HC := Aside0.mk hc0_4
  clear hr0_4 hc0_4
  replace h := Option.bind_eq_some_iff.mp h
  obtain ⟨⟨y0, y1, y2, y3, l⟩, qc, h⟩ := h
  have QC := Aside0.mk qc
  have H := Aside0.mk h
  clear qc h
  have hy : a0_0 = y0 := (spec_l05Hear.copy0 QC.out).symm
  subst hy
  go_enter Try.func134, Try.ntmps134
  go_wp2_with fail
  go_at_call 159
  have W0s := spec_l05Hear.three w #[.int .i64 a0_0, .int .i64 a0_1, .int .i64 a0_2, .int .i64 a0_3, .slice A0_4 l0_4.length c0_4] #[.int .i64 a1_0, .int .i64 a1_1, .int .i64 a1_2, .int .i64 a1_3, .string a1_4]
  with_reducible refine (spec_l05Copy.calls a0_0 a0_1 a0_2 a0_3 A0_4 c0_4 l0_4 a0_0 y1 y2 y3 l _ (Kd.C_below HR.out W0s.2.2.2) HC.out QC.out).mono ?_
  rintro e w1 ⟨v4_, rfl, ho, hb⟩
  obtain ⟨A, c, rfl⟩ := Kd.R_slice ho
  obtain ⟨g5, hg5⟩ : ∃ g5, g5 = w1.heap.size := ⟨_, rfl⟩
  have PW := Aside0.mk (show spec_l05Hear.HS w (w1.alloc (.cells #[.int .i64 a0_0, .int .i64 y1, .int .i64 y2, .int .i64 y3, .slice A l.length c, .slice none 0 0, .bool false, .int .i64 0] 26)) g5 a0_0 a0_1 a0_2 a0_3 A0_4 c0_4 l0_4 a1_0 a1_1 a1_2 a1_3 a1_4 a0_0 y1 y2 y3 A c l false from ⟨blk_alloc (blk_below W0s.1 hb) _, blk_alloc (blk_below W0s.2.1 hb) _, blk_alloc (blk_below W0s.2.2.1 hb) _, hg5 ▸ blk_new w1 _, Kd.R_lower (Kd.R_alloc ho _) W0s.2.2.2.size, by have := Nat.lt_of_lt_of_le (blk_lt W0s.2.2.1) hb.size; omega, below_alloc (below_step W0s.2.2.2 hb) _⟩)
  clear ho hb W0s QC
  go_upto_region 2 with (fail)
  rw [← hg5]
  refine spec_l05Hear.gen (fun W => spec_l05Hear.HS w W g5 a0_0 a0_1 a0_2 a0_3 A0_4 c0_4 l0_4 a1_0 a1_1 a1_2 a1_3 a1_4 a0_0 y1 y2 y3 A c l false) PW.out ?_
  clear hg5 PW
  intro W0 h_
  have S0 := Aside0.mk h_
  clear h_
  have p0 := (blk_cell S0.out.bp 0).trans rfl
  have p1 := (blk_cell S0.out.bp 1).trans rfl
  have p2 := (blk_cell S0.out.bp 2).trans rfl
  have p3 := (blk_cell S0.out.bp 3).trans rfl
  have p4 := (blk_cell S0.out.bp 4).trans rfl
  have x0 := (blk_cell S0.out.bx 0).trans rfl
  have x1 := (blk_cell S0.out.bx 1).trans rfl
  have x2 := (blk_cell S0.out.bx 2).trans rfl
  have x3 := (blk_cell S0.out.bx 3).trans rfl
  have x4 := (blk_cell S0.out.bx 4).trans rfl
  have q0 := (blk_cell S0.out.b5 0).trans rfl
  have q1 := (blk_cell S0.out.b5 1).trans rfl
  have q2 := (blk_cell S0.out.b5 2).trans rfl
  have q3 := (blk_cell S0.out.b5 3).trans rfl
  have q4 := (blk_cell S0.out.b5 4).trans rfl
  have q5 := (blk_cell S0.out.b5 5).trans rfl
  have q6 := (blk_cell S0.out.b5 6).trans rfl
  have q7 := (blk_cell S0.out.b5 7).trans rfl
  have fz0 := blk_frozen S0.out.b5 0
  have fz1 := blk_frozen S0.out.b5 1
  have fz2 := blk_frozen S0.out.b5 2
  have fz3 := blk_frozen S0.out.b5 3
  have fz4 := blk_frozen S0.out.b5 4
  have fz5 := blk_frozen S0.out.b5 5
  have fz6 := blk_frozen S0.out.b5 6
  have fz7 := blk_frozen S0.out.b5 7
  by_cases c1 : a1_0 < a0_1
  · have h := H.out
    rw [if_pos c1] at h
    have H := Aside0.mk h
    clear h
    have d0c1 : decide (a1_0 < a0_1) = true := decide_eq_true c1
    clear c1
    have h := H.out
    simp only [Option.some.injEq, Prod.mk.injEq] at h
    obtain ⟨rfl, rfl, rfl, rfl, rfl, rfl, rfl, rfl⟩ := h
    clear H
    obtain ⟨o0, o1, o2, o3, o4, o5, o6, o7, f0, f1, f2, f3, f4, f5, f6, f7⟩ := spec_l05Hear.ofacts S0.out.bo
    have q0 := (blk_cell S0.out.b5 0).trans rfl
    have q1 := (blk_cell S0.out.b5 1).trans rfl
    have q2 := (blk_cell S0.out.b5 2).trans rfl
    have q3 := (blk_cell S0.out.b5 3).trans rfl
    have q4 := (blk_cell S0.out.b5 4).trans rfl
    have q5 := (blk_cell S0.out.b5 5).trans rfl
    have q6 := (blk_cell S0.out.b5 6).trans rfl
    have q7 := (blk_cell S0.out.b5 7).trans rfl
    have fz0 := blk_frozen S0.out.b5 0
    have fz1 := blk_frozen S0.out.b5 1
    have fz2 := blk_frozen S0.out.b5 2
    have fz3 := blk_frozen S0.out.b5 3
    have fz4 := blk_frozen S0.out.b5 4
    have fz5 := blk_frozen S0.out.b5 5
    have fz6 := blk_frozen S0.out.b5 6
    have fz7 := blk_frozen S0.out.b5 7
    go_wp2_with fail
    refine bodyPost_ret (results_cell_row rfl _ _ (w.heap.size + 1 + 1) 26 _ (0, 0) _ rfl (spec_l05Hear.fin S0.out.bo _ _ _ _ _ _ _ _) Try.underlying26 rfl (by kernel_rfl)) rfl ⟨_, _, rfl, spec_l05Hear.row8 S0.out.bo (Kd.R_mono S0.out.ho (fun k hk => by simp [Value.ownBlock])) _ _ _ _ _ _ _ _, Kd.R_nil _ _ _ _ _, spec_l05Hear.set8 (by omega) S0.out.bl _ _ _ _ _ _ _ _⟩
  · have h := H.out
    rw [if_neg c1] at h
    have H := Aside0.mk h
    clear h
    have d0c1 : decide (a1_0 < a0_1) = false := decide_eq_false c1
    clear c1
    by_cases c2 : a0_1 < a1_0
    · have h := H.out
      rw [if_pos c2] at h
      have H := Aside0.mk h
      clear h
      have d0c2 : decide (a0_1 < a1_0) = true := decide_eq_true c2
      clear c2
      go_upto_region 7 with (fail)
      refine spec_l05Hear.gen (fun W => ∃ (b n : Int) (A : Option Addr) (c : Nat) (l : List ByteArray) (fr : Bool), spec_l05Hear.HS w W g5 a0_0 a0_1 a0_2 a0_3 A0_4 c0_4 l0_4 a1_0 a1_1 a1_2 a1_3 a1_4 a0_0 a1_0 b n A c l fr ∧ spec_l05Hear.go a0_0 a0_0 a1_0 b n l fr a1_1 a1_2 a1_3 a1_4 = some (r1, r2, r3, r4, r5, r6, r7, r8)) ⟨0, 0, none, 0, [], true, (((((S0.out.fresh).se a0_0).sp a1_0).sb 0).sn 0).nil, H.out⟩ ?_
      clear p0 x0 p1 x1 p2 x2 p3 x3 p4 x4
      clear q0 fz0 q1 fz1 q2 fz2 q3 fz3 q4 fz4 q5 fz5 q6 fz6 q7 fz7
      clear S0 H
      rintro W7 ⟨b_, n_, A_, c_, l_, fr_, h_, hh_⟩
      have S7 := Aside0.mk h_
      have H := Aside0.mk hh_
      clear h_ hh_
      have h := H.out
      unfold spec_l05Hear.go at h
      have H := Aside0.mk h
      clear h
      have p0 := (blk_cell S7.out.bp 0).trans rfl
      have p1 := (blk_cell S7.out.bp 1).trans rfl
      have p2 := (blk_cell S7.out.bp 2).trans rfl
      have p3 := (blk_cell S7.out.bp 3).trans rfl
      have p4 := (blk_cell S7.out.bp 4).trans rfl
      have x0 := (blk_cell S7.out.bx 0).trans rfl
      have x1 := (blk_cell S7.out.bx 1).trans rfl
      have x2 := (blk_cell S7.out.bx 2).trans rfl
      have x3 := (blk_cell S7.out.bx 3).trans rfl
      have x4 := (blk_cell S7.out.bx 4).trans rfl
      have q0 := (blk_cell S7.out.b5 0).trans rfl
      have q1 := (blk_cell S7.out.b5 1).trans rfl
      have q2 := (blk_cell S7.out.b5 2).trans rfl
      have q3 := (blk_cell S7.out.b5 3).trans rfl
      have q4 := (blk_cell S7.out.b5 4).trans rfl
      have q5 := (blk_cell S7.out.b5 5).trans rfl
      have q6 := (blk_cell S7.out.b5 6).trans rfl
      have q7 := (blk_cell S7.out.b5 7).trans rfl
      have fz0 := blk_frozen S7.out.b5 0
      have fz1 := blk_frozen S7.out.b5 1
      have fz2 := blk_frozen S7.out.b5 2
      have fz3 := blk_frozen S7.out.b5 3
      have fz4 := blk_frozen S7.out.b5 4
      have fz5 := blk_frozen S7.out.b5 5
      have fz6 := blk_frozen S7.out.b5 6
      have fz7 := blk_frozen S7.out.b5 7
      by_cases ce : a1_1 = a0_0
      · have h := H.out
        rw [if_pos ce] at h
        have H := Aside0.mk h
        clear h
        have d0ce : (a1_1 != a0_0) = false := bne_eq_false_iff_eq.mpr ce
        have d1ce : (a1_1 == a0_0) = true := beq_iff_eq.mpr ce
        clear ce
        have H1 := H.out
        replace H1 := Option.bind_eq_some_iff.mp H1
        obtain ⟨⟨b2_, l2_⟩, qa, h⟩ := H1
        have H := Aside0.mk h
        clear h
        unfold spec_l05Hear.ack at qa
        have hcl : l_.length ≤ c_ := (Kd.R_reads' S7.out.ho).2.1
        by_cases k1 : a1_3 > b_
        · rw [if_pos k1] at qa
          have e1 : decide (b_ < a1_3) = true := decide_eq_true k1
          clear k1
          by_cases k2 : a1_3 ≤ wrap64 (b_ + (l_.length : Int))
          · rw [if_pos k2] at qa
            have e2 : decide (a1_3 ≤ wrap64 (b_ + (l_.length : Int))) = true := decide_eq_true k2
            have e3 : decide (a1_3 ≤ IntKind.i64.wrap (b_ + (l_.length : Int))) = true := by rw [i64_w]; exact e2
            clear k2
            by_cases k3 : 0 ≤ wrap64 (a1_3 - b_) ∧ wrap64 (a1_3 - b_) ≤ (l_.length : Int) ∧ l_.length < 8796093022208
            · rw [if_pos k3] at qa
              simp only [Option.some.injEq, Prod.mk.injEq] at qa
              obtain ⟨rfl, rfl⟩ := qa
              obtain ⟨k3a, k3b, k3c⟩ := k3
              have K3 := Aside0.mk k3c
              clear k3c
              go_upto_region 10 with (fail)
              go_quiet (fail)
              go_upto_region 11 with (fail)
              refine spec_l05Hear.gen (fun W => spec_l05Hear.HS w W g5 a0_0 a0_1 a0_2 a0_3 A0_4 c0_4 l0_4 a1_0 a1_1 a1_2 a1_3 a1_4 a0_0 a1_0 b_ n_ A_ c_ l_ fr_) (S7.out.drewN _) ?_
              clear p0 x0 p1 x1 p2 x2 p3 x3 p4 x4
              clear q0 fz0 q1 fz1 q2 fz2 q3 fz3 q4 fz4 q5 fz5 q6 fz6 q7 fz7
              clear S7 e1 e2 e3
              intro Y h_
              have SY := Aside0.mk h_
              clear h_
              obtain ⟨A', hsl, hrd, hle⟩ := spec_l05Hear.cut A_ c_ l_ (wrap64 (a1_3 - b_)) k3a k3b hcl
              have HRD := Aside0.mk hrd
              clear hrd hle
              obtain ⟨l3, hl3⟩ : ∃ l3, l3 = l_.drop (wrap64 (a1_3 - b_)).toNat := ⟨_, rfl⟩
              rw [← hl3] at H hsl HRD
              have hl3n : l3.length ≤ l_.length := by rw [hl3, List.length_drop]; omega
              have HL3 := Aside0.mk hl3n
              clear hl3 hl3n k3a k3b
              obtain ⟨c', hc'⟩ : ∃ c', c' = c_ - (wrap64 (a1_3 - b_)).toNat := ⟨_, rfl⟩
              rw [← hc'] at hsl
              clear hc'
              refine start_ (n := 18) (S := (fun w' => w'.cell? ⟨w.heap.size + 1, 3, none⟩ = some (.int .i64 a1_3) ∧ w'.cell? ⟨g5, 2, none⟩ = some (.int .i64 b_) ∧ w'.cell? ⟨g5, 4, none⟩ = some (.slice A_ l_.length c_))) (ds := [17]) #[false, false, false, false, false, false, false, false, false, false, false, false, false, false, false, false, false, false] (by kernel_rfl) rfl rfl SY.out.drew.held (fun hHeld => ?_)
              refine pure_ (i := 0) (N := some 57) (v := ?_) (a' := ?_) #[true, false, false, false, false, false, false, false, false, false, false, false, false, false, false, false, false, false] rfl rfl (any_of spec_l05Hear.tab11 (by kernel_rfl)) (fun _ _ _ h => h) (Or.inl ⟨by rfl, ?_⟩) ?_ ?_
              rotate_left
              · intro w'
                go_simp
                with_reducible rfl
              rotate_left
              · simp only [Act.put, List.setIfInBounds_toArray, List.set_cons_zero, List.set_cons_succ, i64_w, i32_w]
                rfl
              refine pure_ (i := 2) (N := some 59) (v := ?_) (a' := ?_) #[true, false, true, false, false, false, false, false, false, false, false, false, false, false, false, false, false, false] rfl rfl (any_of spec_l05Hear.tab11 (by kernel_rfl)) (fun _ _ _ h => h) (Or.inl ⟨by rfl, ?_⟩) ?_ ?_
              rotate_left
              · intro w'
                go_simp
                with_reducible rfl
              rotate_left
              · simp only [Act.put, List.setIfInBounds_toArray, List.set_cons_zero, List.set_cons_succ, i64_w, i32_w]
                rfl
              refine pure_ (i := 3) (N := some 60) (v := ?_) (a' := ?_) #[true, false, true, true, false, false, false, false, false, false, false, false, false, false, false, false, false, false] rfl rfl (any_of spec_l05Hear.tab11 (by kernel_rfl)) (fun _ _ _ h => h) (Or.inl ⟨by rfl, ?_⟩) ?_ ?_
              rotate_left
              · intro w'
                go_simp
                with_reducible rfl
              rotate_left
              · simp only [Act.put, List.setIfInBounds_toArray, List.set_cons_zero, List.set_cons_succ, i64_w, i32_w]
                rfl
              refine pure_ (i := 4) (N := some 61) (v := ?_) (a' := ?_) #[true, false, true, true, true, false, false, false, false, false, false, false, false, false, false, false, false, false] rfl rfl (any_of spec_l05Hear.tab11 (by kernel_rfl)) (fun _ _ _ h => h) (Or.inl ⟨by rfl, ?_⟩) ?_ ?_
              rotate_left
              · intro w'
                go_simp
                with_reducible rfl
              rotate_left
              · simp only [Act.put, List.setIfInBounds_toArray, List.set_cons_zero, List.set_cons_succ, i64_w, i32_w]
                rfl
              refine take_ (i := 5) (N := some 62) (v := ?_) (a' := ?_) #[true, false, true, true, true, true, false, false, false, false, false, false, false, false, false, false, false, false] rfl rfl (take_of spec_l05Hear.tab11 (by kernel_rfl)) (fun _ _ _ h => h) (Or.inl ⟨by rfl, ?_⟩) hHeld ?_ ?_
              rotate_left
              · rintro w' ⟨s0, s1, s2⟩
                go_simp
                with_reducible rfl
              rotate_left
              · simp only [Act.put, List.setIfInBounds_toArray, List.set_cons_zero, List.set_cons_succ, i64_w, i32_w]
                rfl
              refine pure_ (i := 6) (N := some 63) (v := ?_) (a' := ?_) #[true, false, true, true, true, true, true, false, false, false, false, false, false, false, false, false, false, false] rfl rfl (any_of spec_l05Hear.tab11 (by kernel_rfl)) (fun _ _ _ h => h) (Or.inl ⟨by rfl, ?_⟩) ?_ ?_
              rotate_left
              · intro w'
                go_simp
                with_reducible rfl
              rotate_left
              · simp only [Act.put, List.setIfInBounds_toArray, List.set_cons_zero, List.set_cons_succ, i64_w, i32_w]
                rfl
              refine take_ (i := 7) (N := some 64) (v := ?_) (a' := ?_) #[true, false, true, true, true, true, true, true, false, false, false, false, false, false, false, false, false, false] rfl rfl (take_of spec_l05Hear.tab11 (by kernel_rfl)) (fun _ _ _ h => h) (Or.inl ⟨by rfl, ?_⟩) hHeld ?_ ?_
              rotate_left
              · rintro w' ⟨s0, s1, s2⟩
                go_simp
                with_reducible rfl
              rotate_left
              · simp only [Act.put, List.setIfInBounds_toArray, List.set_cons_zero, List.set_cons_succ, i64_w, i32_w]
                rfl
              refine pure_ (i := 8) (N := some 65) (v := ?_) (a' := ?_) #[true, false, true, true, true, true, true, true, true, false, false, false, false, false, false, false, false, false] rfl rfl (any_of spec_l05Hear.tab11 (by kernel_rfl)) (fun _ _ _ h => h) (Or.inl ⟨by rfl, ?_⟩) ?_ ?_
              rotate_left
              · intro w'
                go_simp
                with_reducible rfl
              rotate_left
              · simp only [Act.put, List.setIfInBounds_toArray, List.set_cons_zero, List.set_cons_succ, i64_w, i32_w]
                rfl
              refine pure_ (i := 9) (N := some 66) (v := ?_) (a' := ?_) #[true, false, true, true, true, true, true, true, true, true, false, false, false, false, false, false, false, false] rfl rfl (any_of spec_l05Hear.tab11 (by kernel_rfl)) (fun _ _ _ h => h) (Or.inl ⟨by rfl, ?_⟩) ?_ ?_
              rotate_left
              · intro w'
                go_simp
                with_reducible rfl
              rotate_left
              · simp only [Act.put, List.setIfInBounds_toArray, List.set_cons_zero, List.set_cons_succ, i64_w, i32_w]
                rfl
              refine pure_ (i := 10) (N := some 67) (v := ?_) (a' := ?_) #[true, false, true, true, true, true, true, true, true, true, true, false, false, false, false, false, false, false] rfl rfl (any_of spec_l05Hear.tab11 (by kernel_rfl)) (fun _ _ _ h => h) (Or.inl ⟨by rfl, ?_⟩) ?_ ?_
              rotate_left
              · intro w'
                go_simp
                with_reducible rfl
              rotate_left
              · simp only [Act.put, List.setIfInBounds_toArray, List.set_cons_zero, List.set_cons_succ, i64_w, i32_w]
                rfl
              refine take_ (i := 11) (N := some 68) (v := ?_) (a' := ?_) #[true, false, true, true, true, true, true, true, true, true, true, true, false, false, false, false, false, false] rfl rfl (take_of spec_l05Hear.tab11 (by kernel_rfl)) (fun _ _ _ h => h) (Or.inl ⟨by rfl, ?_⟩) hHeld ?_ ?_
              rotate_left
              · rintro w' ⟨s0, s1, s2⟩
                go_simp
                with_reducible rfl
              rotate_left
              · simp only [Act.put, List.setIfInBounds_toArray, List.set_cons_zero, List.set_cons_succ, i64_w, i32_w]
                rfl
              refine pure_ (i := 12) (N := some 69) (v := ?_) (a' := ?_) #[true, false, true, true, true, true, true, true, true, true, true, true, true, false, false, false, false, false] rfl rfl (any_of spec_l05Hear.tab11 (by kernel_rfl)) (fun _ _ _ h => h) (Or.inl ⟨by rfl, ?_⟩) ?_ ?_
              rotate_left
              · intro w'
                go_simp
                with_reducible rfl
              rotate_left
              · simp only [Act.put, List.setIfInBounds_toArray, List.set_cons_zero, List.set_cons_succ, i64_w, i32_w]
                rfl
              refine pure_ (i := 13) (N := some 70) (v := ?_) (a' := ?_) #[true, false, true, true, true, true, true, true, true, true, true, true, true, true, false, false, false, false] rfl rfl (any_of spec_l05Hear.tab11 (by kernel_rfl)) (fun _ _ _ h => h) (Or.inl ⟨by rfl, ?_⟩) ?_ ?_
              rotate_left
              · intro w'
                go_simp
                with_reducible rfl
              rotate_left
              · simp only [Act.put, List.setIfInBounds_toArray, List.set_cons_zero, List.set_cons_succ, i64_w, i32_w]
                rfl
              refine one_ (i := 1) (N := some 58) #[true, true, true, true, true, true, true, true, true, true, true, true, true, true, false, false, false, false] rfl rfl (one_of spec_l05Hear.tab11 (by kernel_rfl)) (by decide) (fun K hK => ?_)
              refine Kd.R_lit_step Kd.string (w0 := w) w.heap.size 9 (by rfl) (N := 58) rfl (xs := ([] : List ByteArray)) (inner := []) (ok := fun _ => True) (okp := fun _ => True) ?hr ?hp (fun _ hk => hk) trivial SY.out.drew.bl SY.out.drew.bl.size (by simp) ?_
              (case hr => first | (go_simp; done) | (go_simp; rfl))
              (case hp => exact (Reps.none _ _))
              intro v5 w5 ho5 hb5 hg5_ hn5
              have SZ := Aside0.mk (SY.out.drew.below (spec_l05Hear.grownNone hg5_))
              have HO5 := Aside0.mk ho5
              have HN5 := Aside0.mk (show ∀ k, v5.ownBlock = some k → some k ≠ (Value.slice A_ l_.length c_).ownBlock from fun k hk e_ => by obtain ⟨b9, hb9, hle9⟩ := hn5; rw [hk] at hb9; injection hb9 with hb9; subst hb9; have h9 := ((Kd.R_bound SY.out.drew.ho).1 k e_.symm).2.2.1; omega)
              clear ho5 hb5 hg5_ hn5 SY
              refine hK.out _ _ SZ.out.held (fun hHeld => ?_)
              clear hK K
              refine norm_ (a' := ?_) ?_ ?_
              rotate_left
              · show Act.put _ (some 58) _ = _
                simp only [Act.put, List.setIfInBounds_toArray, List.set_cons_zero, List.set_cons_succ, i64_w, i32_w]
                rfl
              refine one_ (i := 14) (N := some 71) #[true, true, true, true, true, true, true, true, true, true, true, true, true, true, true, false, false, false] rfl rfl (one_of spec_l05Hear.tab11 (by kernel_rfl)) (by decide) (fun K hK => ?_)
              refine Kd.R_append_rows_step Kd.string (w0 := w) w.heap.size (by rfl) (.tmp 58) (.tmp 70) 22 9 (.string ⟨#[]⟩) 16 rfl Try.underlying22 info9 rfl (by decide) (by omega) v5 [] l3 A' l3.length c' (fun _ => True) (fun _ => False) rfl rfl HO5.out (HRD.out _ (Kd.R_reads' SZ.out.ho).2.2) (fun _ _ h => h) (fun _ h => h.elim) (fun _ _ => trivial) SZ.out.bl SZ.out.bl.size (by have h1 := K3.out; have h2 := HL3.out; simp only [List.length_nil]; omega) ?_
              intro v6 w6 ho6 hb6 hg6 hat6
              rw [List.nil_append] at ho6
              obtain ⟨A6, c6, rfl⟩ := Kd.R_slice ho6
              have SU := Aside0.mk (SZ.out.grown HO5.out HN5.out hg6 hb6)
              have HO6 := Aside0.mk ho6
              clear ho6 hb6 hg6 hat6 SZ HO5 HN5 HRD hsl
              refine hK.out _ _ SU.out.held (fun hHeld => ?_)
              clear hK K
              refine norm_ (a' := ?_) ?_ ?_
              rotate_left
              · show Act.put _ (some 71) _ = _
                simp only [Act.put, List.setIfInBounds_toArray, List.set_cons_zero, List.set_cons_succ, i64_w, i32_w]
                rfl
              refine pure_ (i := 15) (N := some 72) (v := ?_) (a' := ?_) #[true, true, true, true, true, true, true, true, true, true, true, true, true, true, true, true, false, false] rfl rfl (any_of spec_l05Hear.tab11 (by kernel_rfl)) (fun _ _ _ h => h) (Or.inl ⟨by rfl, ?_⟩) ?_ ?_
              rotate_left
              · intro w'
                go_simp
                with_reducible rfl
              rotate_left
              · simp only [Act.put, List.setIfInBounds_toArray, List.set_cons_zero, List.set_cons_succ, i64_w, i32_w]
                rfl
              refine pure_ (i := 16) (N := some 73) (v := ?_) (a' := ?_) #[true, true, true, true, true, true, true, true, true, true, true, true, true, true, true, true, true, false] rfl rfl (any_of spec_l05Hear.tab11 (by kernel_rfl)) (fun _ _ _ h => h) (Or.inl ⟨by rfl, ?_⟩) ?_ ?_
              rotate_left
              · intro w'
                go_simp
                with_reducible rfl
              rotate_left
              · simp only [Act.put, List.setIfInBounds_toArray, List.set_cons_zero, List.set_cons_succ, i64_w, i32_w]
                rfl
              refine last_ (i := 17) (N := none) #[true, true, true, true, true, true, true, true, true, true, true, true, true, true, true, true, true, true] rfl rfl (one_of spec_l05Hear.tab11 (by kernel_rfl)) (by decide) (fun K hK => ?_)
              have hs4 := (blk_cell SU.out.b5 4).trans rfl
              have hf4 := blk_frozen SU.out.b5 4
              refine skip_ (w1 := ?_) (by rfl) rfl ?_ ?_
              rotate_left
              · go_simp
                rfl
              refine hK.out _ _ ?_
              clear hK K
              refine done_ (done_of spec_l05Hear.tab11 (by kernel_rfl)) ?_
              go_upto_region 12 with (fail)
              refine spec_l05Hear.gen (fun W => spec_l05Hear.HS w W g5 a0_0 a0_1 a0_2 a0_3 A0_4 c0_4 l0_4 a1_0 a1_1 a1_2 a1_3 a1_4 a0_0 a1_0 b_ n_ A6 c6 l3 fr_) (SU.out.row HO6.out) ?_
              (try clear hs4 hf4 hHeld)
              clear SU HO6
              intro T h_
              have ST1 := Aside0.mk h_
              clear h_
              have p0 := (blk_cell ST1.out.bp 0).trans rfl
              have p1 := (blk_cell ST1.out.bp 1).trans rfl
              have p2 := (blk_cell ST1.out.bp 2).trans rfl
              have p3 := (blk_cell ST1.out.bp 3).trans rfl
              have p4 := (blk_cell ST1.out.bp 4).trans rfl
              have x0 := (blk_cell ST1.out.bx 0).trans rfl
              have x1 := (blk_cell ST1.out.bx 1).trans rfl
              have x2 := (blk_cell ST1.out.bx 2).trans rfl
              have x3 := (blk_cell ST1.out.bx 3).trans rfl
              have x4 := (blk_cell ST1.out.bx 4).trans rfl
              have q0 := (blk_cell ST1.out.b5 0).trans rfl
              have q1 := (blk_cell ST1.out.b5 1).trans rfl
              have q2 := (blk_cell ST1.out.b5 2).trans rfl
              have q3 := (blk_cell ST1.out.b5 3).trans rfl
              have q4 := (blk_cell ST1.out.b5 4).trans rfl
              have q5 := (blk_cell ST1.out.b5 5).trans rfl
              have q6 := (blk_cell ST1.out.b5 6).trans rfl
              have q7 := (blk_cell ST1.out.b5 7).trans rfl
              have fz0 := blk_frozen ST1.out.b5 0
              have fz1 := blk_frozen ST1.out.b5 1
              have fz2 := blk_frozen ST1.out.b5 2
              have fz3 := blk_frozen ST1.out.b5 3
              have fz4 := blk_frozen ST1.out.b5 4
              have fz5 := blk_frozen ST1.out.b5 5
              have fz6 := blk_frozen ST1.out.b5 6
              have fz7 := blk_frozen ST1.out.b5 7
              go_upto_region 13 with (fail)
              refine spec_l05Hear.gen (fun W => spec_l05Hear.HS w W g5 a0_0 a0_1 a0_2 a0_3 A0_4 c0_4 l0_4 a1_0 a1_1 a1_2 a1_3 a1_4 a0_0 a1_0 a1_3 n_ A6 c6 l3 fr_) (ST1.out.sb a1_3) ?_
              clear p0 x0 p1 x1 p2 x2 p3 x3 p4 x4
              clear q0 fz0 q1 fz1 q2 fz2 q3 fz3 q4 fz4 q5 fz5 q6 fz6 q7 fz7
              clear ST1
              intro R h_
              have SR := Aside0.mk h_
              clear h_
              have p0 := (blk_cell SR.out.bp 0).trans rfl
              have p1 := (blk_cell SR.out.bp 1).trans rfl
              have p2 := (blk_cell SR.out.bp 2).trans rfl
              have p3 := (blk_cell SR.out.bp 3).trans rfl
              have p4 := (blk_cell SR.out.bp 4).trans rfl
              have x0 := (blk_cell SR.out.bx 0).trans rfl
              have x1 := (blk_cell SR.out.bx 1).trans rfl
              have x2 := (blk_cell SR.out.bx 2).trans rfl
              have x3 := (blk_cell SR.out.bx 3).trans rfl
              have x4 := (blk_cell SR.out.bx 4).trans rfl
              have q0 := (blk_cell SR.out.b5 0).trans rfl
              have q1 := (blk_cell SR.out.b5 1).trans rfl
              have q2 := (blk_cell SR.out.b5 2).trans rfl
              have q3 := (blk_cell SR.out.b5 3).trans rfl
              have q4 := (blk_cell SR.out.b5 4).trans rfl
              have q5 := (blk_cell SR.out.b5 5).trans rfl
              have q6 := (blk_cell SR.out.b5 6).trans rfl
              have q7 := (blk_cell SR.out.b5 7).trans rfl
              have fz0 := blk_frozen SR.out.b5 0
              have fz1 := blk_frozen SR.out.b5 1
              have fz2 := blk_frozen SR.out.b5 2
              have fz3 := blk_frozen SR.out.b5 3
              have fz4 := blk_frozen SR.out.b5 4
              have fz5 := blk_frozen SR.out.b5 5
              have fz6 := blk_frozen SR.out.b5 6
              have fz7 := blk_frozen SR.out.b5 7
              by_cases cn : a1_2 = wrap64 (n_ + 1)
              · have h := H.out
                rw [if_pos cn] at h
                have H := Aside0.mk h
                clear h
                have d0cn : (a1_2 != wrap64 (n_ + 1)) = false := bne_eq_false_iff_eq.mpr cn
                have d1cn : (a1_2 == wrap64 (n_ + 1)) = true := beq_iff_eq.mpr cn
                have d2cn : (a1_2 == IntKind.i64.wrap (n_ + 1)) = true := by rw [i64_w]; exact d1cn
                clear cn
                go_upto_region 13 with (fail)
                go_quiet (fail)
                go_upto_region 14 with (fail)
                refine spec_l05Hear.gen (fun W => spec_l05Hear.HS w W g5 a0_0 a0_1 a0_2 a0_3 A0_4 c0_4 l0_4 a1_0 a1_1 a1_2 a1_3 a1_4 a0_0 a1_0 a1_3 n_ A6 c6 l3 fr_) (SR.out.drewN _) ?_
                clear p0 x0 p1 x1 p2 x2 p3 x3 p4 x4
                clear q0 fz0 q1 fz1 q2 fz2 q3 fz3 q4 fz4 q5 fz5 q6 fz6 q7 fz7
                clear SR
                intro X h_
                have SX := Aside0.mk h_
                clear h_
                have h := H.out
                simp only [Option.some.injEq, Prod.mk.injEq] at h
                obtain ⟨rfl, rfl, rfl, rfl, rfl, rfl, rfl, rfl⟩ := h
                clear H
                have p0 := (blk_cell SX.out.bp 0).trans rfl
                have p1 := (blk_cell SX.out.bp 1).trans rfl
                have p2 := (blk_cell SX.out.bp 2).trans rfl
                have p3 := (blk_cell SX.out.bp 3).trans rfl
                have p4 := (blk_cell SX.out.bp 4).trans rfl
                have x0 := (blk_cell SX.out.bx 0).trans rfl
                have x1 := (blk_cell SX.out.bx 1).trans rfl
                have x2 := (blk_cell SX.out.bx 2).trans rfl
                have x3 := (blk_cell SX.out.bx 3).trans rfl
                have x4 := (blk_cell SX.out.bx 4).trans rfl
                have q0 := (blk_cell SX.out.b5 0).trans rfl
                have q1 := (blk_cell SX.out.b5 1).trans rfl
                have q2 := (blk_cell SX.out.b5 2).trans rfl
                have q3 := (blk_cell SX.out.b5 3).trans rfl
                have q4 := (blk_cell SX.out.b5 4).trans rfl
                have q5 := (blk_cell SX.out.b5 5).trans rfl
                have q6 := (blk_cell SX.out.b5 6).trans rfl
                have q7 := (blk_cell SX.out.b5 7).trans rfl
                have fz0 := blk_frozen SX.out.b5 0
                have fz1 := blk_frozen SX.out.b5 1
                have fz2 := blk_frozen SX.out.b5 2
                have fz3 := blk_frozen SX.out.b5 3
                have fz4 := blk_frozen SX.out.b5 4
                have fz5 := blk_frozen SX.out.b5 5
                have fz6 := blk_frozen SX.out.b5 6
                have fz7 := blk_frozen SX.out.b5 7
                go_upto_region 15 with (fail)
                refine spec_l05Hear.gen (fun W => spec_l05Hear.HS w W g5 a0_0 a0_1 a0_2 a0_3 A0_4 c0_4 l0_4 a1_0 a1_1 a1_2 a1_3 a1_4 a0_0 a1_0 a1_3 a1_2 A6 c6 l3 fr_) (SX.out.sn a1_2) ?_
                clear p0 x0 p1 x1 p2 x2 p3 x3 p4 x4
                clear q0 fz0 q1 fz1 q2 fz2 q3 fz3 q4 fz4 q5 fz5 q6 fz6 q7 fz7
                intro V h_
                have SV := Aside0.mk h_
                clear h_ SX
                have x4 := (blk_cell SV.out.bx 4).trans rfl
                have q5 := (blk_cell SV.out.b5 5).trans rfl
                have fz5 := blk_frozen SV.out.b5 5
                have q5a := (blk_cell (blk_alloc SV.out.b5 (.cells #[.string a1_4] 9)) 5).trans rfl
                have fz5a := blk_frozen (blk_alloc SV.out.b5 (.cells #[.string a1_4] 9)) 5
                go_upto_region 16 with (fail)
                refine spec_l05Hear.gen (fun W => ∃ gt, W.heap[w.heap.size + 1 + 1]? = some (.cells #[.int .i64 0, .int .i64 0, .int .i64 0, .int .i64 0, .slice none 0 0, .slice none 0 0, .bool false, .int .i64 0] 26 (0, 0)) ∧ W.heap[g5]? = some (.cells #[.int .i64 a0_0, .int .i64 a1_0, .int .i64 a1_3, .int .i64 a1_2, .slice A6 l3.length c6, .slice (some ⟨gt, 0, none⟩) 1 1, .bool fr_, .int .i64 0] 26 (0, 0)) ∧ Kd.R Kd.string 9 W w.heap.size (fun k_ => some k_ ≠ (Value.slice (some ⟨gt, 0, none⟩) 1 1).ownBlock) (.slice A6 l3.length c6) l3 ∧ Kd.R Kd.string 9 W w.heap.size (fun k_ => some k_ ≠ (Value.slice A6 l3.length c6).ownBlock) (.slice (some ⟨gt, 0, none⟩) 1 1) [a1_4] ∧ Below w.heap.size w W) ?_ ?_
                · first
                  | exact ⟨V.heap.size, spec_l05Hear.texts SV.out⟩
                  | exact ⟨V.heap.size, spec_l05Hear.texts2 SV.out⟩
                clear x4 q5 fz5 q5a fz5a
                rintro U ⟨gt, bo, b5, h4, h5, bl⟩
                obtain ⟨o0, o1, o2, o3, o4, o5, o6, o7, f0, f1, f2, f3, f4, f5, f6, f7⟩ := spec_l05Hear.ofacts bo
                have q0 := (blk_cell b5 0).trans rfl
                have q1 := (blk_cell b5 1).trans rfl
                have q2 := (blk_cell b5 2).trans rfl
                have q3 := (blk_cell b5 3).trans rfl
                have q4 := (blk_cell b5 4).trans rfl
                have q5 := (blk_cell b5 5).trans rfl
                have q6 := (blk_cell b5 6).trans rfl
                have q7 := (blk_cell b5 7).trans rfl
                have BO := Aside0.mk bo
                have H4 := Aside0.mk h4
                have H5 := Aside0.mk h5
                have BL := Aside0.mk bl
                clear bo b5 h4 h5 bl SV
                go_wp2_with fail
                refine bodyPost_ret (results_cell_row rfl _ _ (w.heap.size + 1 + 1) 26 _ (0, 0) _ rfl (spec_l05Hear.fin BO.out _ _ _ _ _ _ _ _) Try.underlying26 rfl (by kernel_rfl)) rfl ⟨_, _, rfl, spec_l05Hear.row8 BO.out H4.out _ _ _ _ _ _ _ _, spec_l05Hear.row8 BO.out H5.out _ _ _ _ _ _ _ _, spec_l05Hear.set8 (by omega) BL.out _ _ _ _ _ _ _ _⟩
              · have h := H.out
                rw [if_neg cn] at h
                have H := Aside0.mk h
                clear h
                have d0cn : (a1_2 != wrap64 (n_ + 1)) = true := bne_iff_ne.mpr cn
                have d1cn : (a1_2 == wrap64 (n_ + 1)) = false := beq_eq_false_iff_ne.mpr cn
                have d2cn : (a1_2 == IntKind.i64.wrap (n_ + 1)) = false := by rw [i64_w]; exact d1cn
                clear cn
                go_upto_region 13 with (fail)
                go_quiet (fail)
                go_upto_region 16 with (fail)
                refine spec_l05Hear.gen (fun W => spec_l05Hear.HS w W g5 a0_0 a0_1 a0_2 a0_3 A0_4 c0_4 l0_4 a1_0 a1_1 a1_2 a1_3 a1_4 a0_0 a1_0 a1_3 n_ A6 c6 l3 fr_) (SR.out.drewN _) ?_
                clear p0 x0 p1 x1 p2 x2 p3 x3 p4 x4
                clear q0 fz0 q1 fz1 q2 fz2 q3 fz3 q4 fz4 q5 fz5 q6 fz6 q7 fz7
                clear SR
                intro X h_
                have SX := Aside0.mk h_
                clear h_
                have h := H.out
                simp only [Option.some.injEq, Prod.mk.injEq] at h
                obtain ⟨rfl, rfl, rfl, rfl, rfl, rfl, rfl, rfl⟩ := h
                clear H
                obtain ⟨o0, o1, o2, o3, o4, o5, o6, o7, f0, f1, f2, f3, f4, f5, f6, f7⟩ := spec_l05Hear.ofacts SX.out.bo
                have q0 := (blk_cell SX.out.b5 0).trans rfl
                have q1 := (blk_cell SX.out.b5 1).trans rfl
                have q2 := (blk_cell SX.out.b5 2).trans rfl
                have q3 := (blk_cell SX.out.b5 3).trans rfl
                have q4 := (blk_cell SX.out.b5 4).trans rfl
                have q5 := (blk_cell SX.out.b5 5).trans rfl
                have q6 := (blk_cell SX.out.b5 6).trans rfl
                have q7 := (blk_cell SX.out.b5 7).trans rfl
                have fz0 := blk_frozen SX.out.b5 0
                have fz1 := blk_frozen SX.out.b5 1
                have fz2 := blk_frozen SX.out.b5 2
                have fz3 := blk_frozen SX.out.b5 3
                have fz4 := blk_frozen SX.out.b5 4
                have fz5 := blk_frozen SX.out.b5 5
                have fz6 := blk_frozen SX.out.b5 6
                have fz7 := blk_frozen SX.out.b5 7
                go_wp2_with fail
                refine bodyPost_ret (results_cell_row rfl _ _ (w.heap.size + 1 + 1) 26 _ (0, 0) _ rfl (spec_l05Hear.fin SX.out.bo _ _ _ _ _ _ _ _) Try.underlying26 rfl (by kernel_rfl)) rfl ⟨_, _, rfl, spec_l05Hear.row8 SX.out.bo (Kd.R_mono SX.out.ho (fun k hk => by simp [Value.ownBlock])) _ _ _ _ _ _ _ _, Kd.R_nil _ _ _ _ _, spec_l05Hear.set8 (by omega) SX.out.bl _ _ _ _ _ _ _ _⟩
            · rw [if_neg k3] at qa; cases qa
          · rw [if_neg k2] at qa
            have e2 : decide (a1_3 ≤ wrap64 (b_ + (l_.length : Int))) = false := decide_eq_false k2
            have e3 : decide (a1_3 ≤ IntKind.i64.wrap (b_ + (l_.length : Int))) = false := by rw [i64_w]; exact e2
            clear k2
            simp only [Option.some.injEq, Prod.mk.injEq] at qa
            obtain ⟨rfl, rfl⟩ := qa
            go_upto_region 10 with (fail)
            go_quiet (fail)
            go_upto_region 13 with (fail)
            refine spec_l05Hear.gen (fun W => spec_l05Hear.HS w W g5 a0_0 a0_1 a0_2 a0_3 A0_4 c0_4 l0_4 a1_0 a1_1 a1_2 a1_3 a1_4 a0_0 a1_0 b_ n_ A_ c_ l_ fr_) (S7.out.drewN _) ?_
            clear p0 x0 p1 x1 p2 x2 p3 x3 p4 x4
            clear q0 fz0 q1 fz1 q2 fz2 q3 fz3 q4 fz4 q5 fz5 q6 fz6 q7 fz7
            clear S7 hcl
            intro R h_
            have SR := Aside0.mk h_
            clear h_
            have p0 := (blk_cell SR.out.bp 0).trans rfl
            have p1 := (blk_cell SR.out.bp 1).trans rfl
            have p2 := (blk_cell SR.out.bp 2).trans rfl
            have p3 := (blk_cell SR.out.bp 3).trans rfl
            have p4 := (blk_cell SR.out.bp 4).trans rfl
            have x0 := (blk_cell SR.out.bx 0).trans rfl
            have x1 := (blk_cell SR.out.bx 1).trans rfl
            have x2 := (blk_cell SR.out.bx 2).trans rfl
            have x3 := (blk_cell SR.out.bx 3).trans rfl
            have x4 := (blk_cell SR.out.bx 4).trans rfl
            have q0 := (blk_cell SR.out.b5 0).trans rfl
            have q1 := (blk_cell SR.out.b5 1).trans rfl
            have q2 := (blk_cell SR.out.b5 2).trans rfl
            have q3 := (blk_cell SR.out.b5 3).trans rfl
            have q4 := (blk_cell SR.out.b5 4).trans rfl
            have q5 := (blk_cell SR.out.b5 5).trans rfl
            have q6 := (blk_cell SR.out.b5 6).trans rfl
            have q7 := (blk_cell SR.out.b5 7).trans rfl
            have fz0 := blk_frozen SR.out.b5 0
            have fz1 := blk_frozen SR.out.b5 1
            have fz2 := blk_frozen SR.out.b5 2
            have fz3 := blk_frozen SR.out.b5 3
            have fz4 := blk_frozen SR.out.b5 4
            have fz5 := blk_frozen SR.out.b5 5
            have fz6 := blk_frozen SR.out.b5 6
            have fz7 := blk_frozen SR.out.b5 7
            by_cases cn : a1_2 = wrap64 (n_ + 1)
            · have h := H.out
              rw [if_pos cn] at h
              have H := Aside0.mk h
              clear h
              have d0cn : (a1_2 != wrap64 (n_ + 1)) = false := bne_eq_false_iff_eq.mpr cn
              have d1cn : (a1_2 == wrap64 (n_ + 1)) = true := beq_iff_eq.mpr cn
              have d2cn : (a1_2 == IntKind.i64.wrap (n_ + 1)) = true := by rw [i64_w]; exact d1cn
              clear cn
              go_upto_region 13 with (fail)
              go_quiet (fail)
              go_upto_region 14 with (fail)
              refine spec_l05Hear.gen (fun W => spec_l05Hear.HS w W g5 a0_0 a0_1 a0_2 a0_3 A0_4 c0_4 l0_4 a1_0 a1_1 a1_2 a1_3 a1_4 a0_0 a1_0 b_ n_ A_ c_ l_ fr_) (SR.out.drewN _) ?_
              clear p0 x0 p1 x1 p2 x2 p3 x3 p4 x4
              clear q0 fz0 q1 fz1 q2 fz2 q3 fz3 q4 fz4 q5 fz5 q6 fz6 q7 fz7
              clear SR
              intro X h_
              have SX := Aside0.mk h_
              clear h_
              have h := H.out
              simp only [Option.some.injEq, Prod.mk.injEq] at h
              obtain ⟨rfl, rfl, rfl, rfl, rfl, rfl, rfl, rfl⟩ := h
              clear H
              have p0 := (blk_cell SX.out.bp 0).trans rfl
              have p1 := (blk_cell SX.out.bp 1).trans rfl
              have p2 := (blk_cell SX.out.bp 2).trans rfl
              have p3 := (blk_cell SX.out.bp 3).trans rfl
              have p4 := (blk_cell SX.out.bp 4).trans rfl
              have x0 := (blk_cell SX.out.bx 0).trans rfl
              have x1 := (blk_cell SX.out.bx 1).trans rfl
              have x2 := (blk_cell SX.out.bx 2).trans rfl
              have x3 := (blk_cell SX.out.bx 3).trans rfl
              have x4 := (blk_cell SX.out.bx 4).trans rfl
              have q0 := (blk_cell SX.out.b5 0).trans rfl
              have q1 := (blk_cell SX.out.b5 1).trans rfl
              have q2 := (blk_cell SX.out.b5 2).trans rfl
              have q3 := (blk_cell SX.out.b5 3).trans rfl
              have q4 := (blk_cell SX.out.b5 4).trans rfl
              have q5 := (blk_cell SX.out.b5 5).trans rfl
              have q6 := (blk_cell SX.out.b5 6).trans rfl
              have q7 := (blk_cell SX.out.b5 7).trans rfl
              have fz0 := blk_frozen SX.out.b5 0
              have fz1 := blk_frozen SX.out.b5 1
              have fz2 := blk_frozen SX.out.b5 2
              have fz3 := blk_frozen SX.out.b5 3
              have fz4 := blk_frozen SX.out.b5 4
              have fz5 := blk_frozen SX.out.b5 5
              have fz6 := blk_frozen SX.out.b5 6
              have fz7 := blk_frozen SX.out.b5 7
              go_upto_region 15 with (fail)
              refine spec_l05Hear.gen (fun W => spec_l05Hear.HS w W g5 a0_0 a0_1 a0_2 a0_3 A0_4 c0_4 l0_4 a1_0 a1_1 a1_2 a1_3 a1_4 a0_0 a1_0 b_ a1_2 A_ c_ l_ fr_) (SX.out.sn a1_2) ?_
              clear p0 x0 p1 x1 p2 x2 p3 x3 p4 x4
              clear q0 fz0 q1 fz1 q2 fz2 q3 fz3 q4 fz4 q5 fz5 q6 fz6 q7 fz7
              intro V h_
              have SV := Aside0.mk h_
              clear h_ SX
              have x4 := (blk_cell SV.out.bx 4).trans rfl
              have q5 := (blk_cell SV.out.b5 5).trans rfl
              have fz5 := blk_frozen SV.out.b5 5
              have q5a := (blk_cell (blk_alloc SV.out.b5 (.cells #[.string a1_4] 9)) 5).trans rfl
              have fz5a := blk_frozen (blk_alloc SV.out.b5 (.cells #[.string a1_4] 9)) 5
              go_upto_region 16 with (fail)
              refine spec_l05Hear.gen (fun W => ∃ gt, W.heap[w.heap.size + 1 + 1]? = some (.cells #[.int .i64 0, .int .i64 0, .int .i64 0, .int .i64 0, .slice none 0 0, .slice none 0 0, .bool false, .int .i64 0] 26 (0, 0)) ∧ W.heap[g5]? = some (.cells #[.int .i64 a0_0, .int .i64 a1_0, .int .i64 b_, .int .i64 a1_2, .slice A_ l_.length c_, .slice (some ⟨gt, 0, none⟩) 1 1, .bool fr_, .int .i64 0] 26 (0, 0)) ∧ Kd.R Kd.string 9 W w.heap.size (fun k_ => some k_ ≠ (Value.slice (some ⟨gt, 0, none⟩) 1 1).ownBlock) (.slice A_ l_.length c_) l_ ∧ Kd.R Kd.string 9 W w.heap.size (fun k_ => some k_ ≠ (Value.slice A_ l_.length c_).ownBlock) (.slice (some ⟨gt, 0, none⟩) 1 1) [a1_4] ∧ Below w.heap.size w W) ?_ ?_
              · first
                | exact ⟨V.heap.size, spec_l05Hear.texts SV.out⟩
                | exact ⟨V.heap.size, spec_l05Hear.texts2 SV.out⟩
              clear x4 q5 fz5 q5a fz5a
              rintro U ⟨gt, bo, b5, h4, h5, bl⟩
              obtain ⟨o0, o1, o2, o3, o4, o5, o6, o7, f0, f1, f2, f3, f4, f5, f6, f7⟩ := spec_l05Hear.ofacts bo
              have q0 := (blk_cell b5 0).trans rfl
              have q1 := (blk_cell b5 1).trans rfl
              have q2 := (blk_cell b5 2).trans rfl
              have q3 := (blk_cell b5 3).trans rfl
              have q4 := (blk_cell b5 4).trans rfl
              have q5 := (blk_cell b5 5).trans rfl
              have q6 := (blk_cell b5 6).trans rfl
              have q7 := (blk_cell b5 7).trans rfl
              have BO := Aside0.mk bo
              have H4 := Aside0.mk h4
              have H5 := Aside0.mk h5
              have BL := Aside0.mk bl
              clear bo b5 h4 h5 bl SV
              go_wp2_with fail
              refine bodyPost_ret (results_cell_row rfl _ _ (w.heap.size + 1 + 1) 26 _ (0, 0) _ rfl (spec_l05Hear.fin BO.out _ _ _ _ _ _ _ _) Try.underlying26 rfl (by kernel_rfl)) rfl ⟨_, _, rfl, spec_l05Hear.row8 BO.out H4.out _ _ _ _ _ _ _ _, spec_l05Hear.row8 BO.out H5.out _ _ _ _ _ _ _ _, spec_l05Hear.set8 (by omega) BL.out _ _ _ _ _ _ _ _⟩
            · have h := H.out
              rw [if_neg cn] at h
              have H := Aside0.mk h
              clear h
              have d0cn : (a1_2 != wrap64 (n_ + 1)) = true := bne_iff_ne.mpr cn
              have d1cn : (a1_2 == wrap64 (n_ + 1)) = false := beq_eq_false_iff_ne.mpr cn
              have d2cn : (a1_2 == IntKind.i64.wrap (n_ + 1)) = false := by rw [i64_w]; exact d1cn
              clear cn
              go_upto_region 13 with (fail)
              go_quiet (fail)
              go_upto_region 16 with (fail)
              refine spec_l05Hear.gen (fun W => spec_l05Hear.HS w W g5 a0_0 a0_1 a0_2 a0_3 A0_4 c0_4 l0_4 a1_0 a1_1 a1_2 a1_3 a1_4 a0_0 a1_0 b_ n_ A_ c_ l_ fr_) (SR.out.drewN _) ?_
              clear p0 x0 p1 x1 p2 x2 p3 x3 p4 x4
              clear q0 fz0 q1 fz1 q2 fz2 q3 fz3 q4 fz4 q5 fz5 q6 fz6 q7 fz7
              clear SR
              intro X h_
              have SX := Aside0.mk h_
              clear h_
              have h := H.out
              simp only [Option.some.injEq, Prod.mk.injEq] at h
              obtain ⟨rfl, rfl, rfl, rfl, rfl, rfl, rfl, rfl⟩ := h
              clear H
              obtain ⟨o0, o1, o2, o3, o4, o5, o6, o7, f0, f1, f2, f3, f4, f5, f6, f7⟩ := spec_l05Hear.ofacts SX.out.bo
              have q0 := (blk_cell SX.out.b5 0).trans rfl
              have q1 := (blk_cell SX.out.b5 1).trans rfl
              have q2 := (blk_cell SX.out.b5 2).trans rfl
              have q3 := (blk_cell SX.out.b5 3).trans rfl
              have q4 := (blk_cell SX.out.b5 4).trans rfl
              have q5 := (blk_cell SX.out.b5 5).trans rfl
              have q6 := (blk_cell SX.out.b5 6).trans rfl
              have q7 := (blk_cell SX.out.b5 7).trans rfl
              have fz0 := blk_frozen SX.out.b5 0
              have fz1 := blk_frozen SX.out.b5 1
              have fz2 := blk_frozen SX.out.b5 2
              have fz3 := blk_frozen SX.out.b5 3
              have fz4 := blk_frozen SX.out.b5 4
              have fz5 := blk_frozen SX.out.b5 5
              have fz6 := blk_frozen SX.out.b5 6
              have fz7 := blk_frozen SX.out.b5 7
              go_wp2_with fail
              refine bodyPost_ret (results_cell_row rfl _ _ (w.heap.size + 1 + 1) 26 _ (0, 0) _ rfl (spec_l05Hear.fin SX.out.bo _ _ _ _ _ _ _ _) Try.underlying26 rfl (by kernel_rfl)) rfl ⟨_, _, rfl, spec_l05Hear.row8 SX.out.bo (Kd.R_mono SX.out.ho (fun k hk => by simp [Value.ownBlock])) _ _ _ _ _ _ _ _, Kd.R_nil _ _ _ _ _, spec_l05Hear.set8 (by omega) SX.out.bl _ _ _ _ _ _ _ _⟩
        · rw [if_neg k1] at qa
          have e1 : decide (b_ < a1_3) = false := decide_eq_false k1
          clear k1
          simp only [Option.some.injEq, Prod.mk.injEq] at qa
          obtain ⟨rfl, rfl⟩ := qa
          go_upto_region 10 with (fail)
          go_quiet (fail)
          go_upto_region 13 with (fail)
          refine spec_l05Hear.gen (fun W => spec_l05Hear.HS w W g5 a0_0 a0_1 a0_2 a0_3 A0_4 c0_4 l0_4 a1_0 a1_1 a1_2 a1_3 a1_4 a0_0 a1_0 b_ n_ A_ c_ l_ fr_) (S7.out.drewN _) ?_
          clear p0 x0 p1 x1 p2 x2 p3 x3 p4 x4
          clear q0 fz0 q1 fz1 q2 fz2 q3 fz3 q4 fz4 q5 fz5 q6 fz6 q7 fz7
          clear S7 hcl
          intro R h_
          have SR := Aside0.mk h_
          clear h_
          have p0 := (blk_cell SR.out.bp 0).trans rfl
          have p1 := (blk_cell SR.out.bp 1).trans rfl
          have p2 := (blk_cell SR.out.bp 2).trans rfl
          have p3 := (blk_cell SR.out.bp 3).trans rfl
          have p4 := (blk_cell SR.out.bp 4).trans rfl
          have x0 := (blk_cell SR.out.bx 0).trans rfl
          have x1 := (blk_cell SR.out.bx 1).trans rfl
          have x2 := (blk_cell SR.out.bx 2).trans rfl
          have x3 := (blk_cell SR.out.bx 3).trans rfl
          have x4 := (blk_cell SR.out.bx 4).trans rfl
          have q0 := (blk_cell SR.out.b5 0).trans rfl
          have q1 := (blk_cell SR.out.b5 1).trans rfl
          have q2 := (blk_cell SR.out.b5 2).trans rfl
          have q3 := (blk_cell SR.out.b5 3).trans rfl
          have q4 := (blk_cell SR.out.b5 4).trans rfl
          have q5 := (blk_cell SR.out.b5 5).trans rfl
          have q6 := (blk_cell SR.out.b5 6).trans rfl
          have q7 := (blk_cell SR.out.b5 7).trans rfl
          have fz0 := blk_frozen SR.out.b5 0
          have fz1 := blk_frozen SR.out.b5 1
          have fz2 := blk_frozen SR.out.b5 2
          have fz3 := blk_frozen SR.out.b5 3
          have fz4 := blk_frozen SR.out.b5 4
          have fz5 := blk_frozen SR.out.b5 5
          have fz6 := blk_frozen SR.out.b5 6
          have fz7 := blk_frozen SR.out.b5 7
          by_cases cn : a1_2 = wrap64 (n_ + 1)
          · have h := H.out
            rw [if_pos cn] at h
            have H := Aside0.mk h
            clear h
            have d0cn : (a1_2 != wrap64 (n_ + 1)) = false := bne_eq_false_iff_eq.mpr cn
            have d1cn : (a1_2 == wrap64 (n_ + 1)) = true := beq_iff_eq.mpr cn
            have d2cn : (a1_2 == IntKind.i64.wrap (n_ + 1)) = true := by rw [i64_w]; exact d1cn
            clear cn
            go_upto_region 13 with (fail)
            go_quiet (fail)
            go_upto_region 14 with (fail)
            refine spec_l05Hear.gen (fun W => spec_l05Hear.HS w W g5 a0_0 a0_1 a0_2 a0_3 A0_4 c0_4 l0_4 a1_0 a1_1 a1_2 a1_3 a1_4 a0_0 a1_0 b_ n_ A_ c_ l_ fr_) (SR.out.drewN _) ?_
            clear p0 x0 p1 x1 p2 x2 p3 x3 p4 x4
            clear q0 fz0 q1 fz1 q2 fz2 q3 fz3 q4 fz4 q5 fz5 q6 fz6 q7 fz7
            clear SR
            intro X h_
            have SX := Aside0.mk h_
            clear h_
            have h := H.out
            simp only [Option.some.injEq, Prod.mk.injEq] at h
            obtain ⟨rfl, rfl, rfl, rfl, rfl, rfl, rfl, rfl⟩ := h
            clear H
            have p0 := (blk_cell SX.out.bp 0).trans rfl
            have p1 := (blk_cell SX.out.bp 1).trans rfl
            have p2 := (blk_cell SX.out.bp 2).trans rfl
            have p3 := (blk_cell SX.out.bp 3).trans rfl
            have p4 := (blk_cell SX.out.bp 4).trans rfl
            have x0 := (blk_cell SX.out.bx 0).trans rfl
            have x1 := (blk_cell SX.out.bx 1).trans rfl
            have x2 := (blk_cell SX.out.bx 2).trans rfl
            have x3 := (blk_cell SX.out.bx 3).trans rfl
            have x4 := (blk_cell SX.out.bx 4).trans rfl
            have q0 := (blk_cell SX.out.b5 0).trans rfl
            have q1 := (blk_cell SX.out.b5 1).trans rfl
            have q2 := (blk_cell SX.out.b5 2).trans rfl
            have q3 := (blk_cell SX.out.b5 3).trans rfl
            have q4 := (blk_cell SX.out.b5 4).trans rfl
            have q5 := (blk_cell SX.out.b5 5).trans rfl
            have q6 := (blk_cell SX.out.b5 6).trans rfl
            have q7 := (blk_cell SX.out.b5 7).trans rfl
            have fz0 := blk_frozen SX.out.b5 0
            have fz1 := blk_frozen SX.out.b5 1
            have fz2 := blk_frozen SX.out.b5 2
            have fz3 := blk_frozen SX.out.b5 3
            have fz4 := blk_frozen SX.out.b5 4
            have fz5 := blk_frozen SX.out.b5 5
            have fz6 := blk_frozen SX.out.b5 6
            have fz7 := blk_frozen SX.out.b5 7
            go_upto_region 15 with (fail)
            refine spec_l05Hear.gen (fun W => spec_l05Hear.HS w W g5 a0_0 a0_1 a0_2 a0_3 A0_4 c0_4 l0_4 a1_0 a1_1 a1_2 a1_3 a1_4 a0_0 a1_0 b_ a1_2 A_ c_ l_ fr_) (SX.out.sn a1_2) ?_
            clear p0 x0 p1 x1 p2 x2 p3 x3 p4 x4
            clear q0 fz0 q1 fz1 q2 fz2 q3 fz3 q4 fz4 q5 fz5 q6 fz6 q7 fz7
            intro V h_
            have SV := Aside0.mk h_
            clear h_ SX
            have x4 := (blk_cell SV.out.bx 4).trans rfl
            have q5 := (blk_cell SV.out.b5 5).trans rfl
            have fz5 := blk_frozen SV.out.b5 5
            have q5a := (blk_cell (blk_alloc SV.out.b5 (.cells #[.string a1_4] 9)) 5).trans rfl
            have fz5a := blk_frozen (blk_alloc SV.out.b5 (.cells #[.string a1_4] 9)) 5
            go_upto_region 16 with (fail)
            refine spec_l05Hear.gen (fun W => ∃ gt, W.heap[w.heap.size + 1 + 1]? = some (.cells #[.int .i64 0, .int .i64 0, .int .i64 0, .int .i64 0, .slice none 0 0, .slice none 0 0, .bool false, .int .i64 0] 26 (0, 0)) ∧ W.heap[g5]? = some (.cells #[.int .i64 a0_0, .int .i64 a1_0, .int .i64 b_, .int .i64 a1_2, .slice A_ l_.length c_, .slice (some ⟨gt, 0, none⟩) 1 1, .bool fr_, .int .i64 0] 26 (0, 0)) ∧ Kd.R Kd.string 9 W w.heap.size (fun k_ => some k_ ≠ (Value.slice (some ⟨gt, 0, none⟩) 1 1).ownBlock) (.slice A_ l_.length c_) l_ ∧ Kd.R Kd.string 9 W w.heap.size (fun k_ => some k_ ≠ (Value.slice A_ l_.length c_).ownBlock) (.slice (some ⟨gt, 0, none⟩) 1 1) [a1_4] ∧ Below w.heap.size w W) ?_ ?_
            · first
              | exact ⟨V.heap.size, spec_l05Hear.texts SV.out⟩
              | exact ⟨V.heap.size, spec_l05Hear.texts2 SV.out⟩
            clear x4 q5 fz5 q5a fz5a
            rintro U ⟨gt, bo, b5, h4, h5, bl⟩
            obtain ⟨o0, o1, o2, o3, o4, o5, o6, o7, f0, f1, f2, f3, f4, f5, f6, f7⟩ := spec_l05Hear.ofacts bo
            have q0 := (blk_cell b5 0).trans rfl
            have q1 := (blk_cell b5 1).trans rfl
            have q2 := (blk_cell b5 2).trans rfl
            have q3 := (blk_cell b5 3).trans rfl
            have q4 := (blk_cell b5 4).trans rfl
            have q5 := (blk_cell b5 5).trans rfl
            have q6 := (blk_cell b5 6).trans rfl
            have q7 := (blk_cell b5 7).trans rfl
            have BO := Aside0.mk bo
            have H4 := Aside0.mk h4
            have H5 := Aside0.mk h5
            have BL := Aside0.mk bl
            clear bo b5 h4 h5 bl SV
            go_wp2_with fail
            refine bodyPost_ret (results_cell_row rfl _ _ (w.heap.size + 1 + 1) 26 _ (0, 0) _ rfl (spec_l05Hear.fin BO.out _ _ _ _ _ _ _ _) Try.underlying26 rfl (by kernel_rfl)) rfl ⟨_, _, rfl, spec_l05Hear.row8 BO.out H4.out _ _ _ _ _ _ _ _, spec_l05Hear.row8 BO.out H5.out _ _ _ _ _ _ _ _, spec_l05Hear.set8 (by omega) BL.out _ _ _ _ _ _ _ _⟩
          · have h := H.out
            rw [if_neg cn] at h
            have H := Aside0.mk h
            clear h
            have d0cn : (a1_2 != wrap64 (n_ + 1)) = true := bne_iff_ne.mpr cn
            have d1cn : (a1_2 == wrap64 (n_ + 1)) = false := beq_eq_false_iff_ne.mpr cn
            have d2cn : (a1_2 == IntKind.i64.wrap (n_ + 1)) = false := by rw [i64_w]; exact d1cn
            clear cn
            go_upto_region 13 with (fail)
            go_quiet (fail)
            go_upto_region 16 with (fail)
            refine spec_l05Hear.gen (fun W => spec_l05Hear.HS w W g5 a0_0 a0_1 a0_2 a0_3 A0_4 c0_4 l0_4 a1_0 a1_1 a1_2 a1_3 a1_4 a0_0 a1_0 b_ n_ A_ c_ l_ fr_) (SR.out.drewN _) ?_
            clear p0 x0 p1 x1 p2 x2 p3 x3 p4 x4
            clear q0 fz0 q1 fz1 q2 fz2 q3 fz3 q4 fz4 q5 fz5 q6 fz6 q7 fz7
            clear SR
            intro X h_
            have SX := Aside0.mk h_
            clear h_
            have h := H.out
            simp only [Option.some.injEq, Prod.mk.injEq] at h
            obtain ⟨rfl, rfl, rfl, rfl, rfl, rfl, rfl, rfl⟩ := h
            clear H
            obtain ⟨o0, o1, o2, o3, o4, o5, o6, o7, f0, f1, f2, f3, f4, f5, f6, f7⟩ := spec_l05Hear.ofacts SX.out.bo
            have q0 := (blk_cell SX.out.b5 0).trans rfl
            have q1 := (blk_cell SX.out.b5 1).trans rfl
            have q2 := (blk_cell SX.out.b5 2).trans rfl
            have q3 := (blk_cell SX.out.b5 3).trans rfl
            have q4 := (blk_cell SX.out.b5 4).trans rfl
            have q5 := (blk_cell SX.out.b5 5).trans rfl
            have q6 := (blk_cell SX.out.b5 6).trans rfl
            have q7 := (blk_cell SX.out.b5 7).trans rfl
            have fz0 := blk_frozen SX.out.b5 0
            have fz1 := blk_frozen SX.out.b5 1
            have fz2 := blk_frozen SX.out.b5 2
            have fz3 := blk_frozen SX.out.b5 3
            have fz4 := blk_frozen SX.out.b5 4
            have fz5 := blk_frozen SX.out.b5 5
            have fz6 := blk_frozen SX.out.b5 6
            have fz7 := blk_frozen SX.out.b5 7
            go_wp2_with fail
            refine bodyPost_ret (results_cell_row rfl _ _ (w.heap.size + 1 + 1) 26 _ (0, 0) _ rfl (spec_l05Hear.fin SX.out.bo _ _ _ _ _ _ _ _) Try.underlying26 rfl (by kernel_rfl)) rfl ⟨_, _, rfl, spec_l05Hear.row8 SX.out.bo (Kd.R_mono SX.out.ho (fun k hk => by simp [Value.ownBlock])) _ _ _ _ _ _ _ _, Kd.R_nil _ _ _ _ _, spec_l05Hear.set8 (by omega) SX.out.bl _ _ _ _ _ _ _ _⟩
      · have h := H.out
        rw [if_neg ce] at h
        have H := Aside0.mk h
        clear h
        have d0ce : (a1_1 != a0_0) = true := bne_iff_ne.mpr ce
        have d1ce : (a1_1 == a0_0) = false := beq_eq_false_iff_ne.mpr ce
        clear ce
        clear p0 x0 p1 x1 p2 x2 p3 x3 p4 x4
        clear q0 fz0 q1 fz1 q2 fz2 q3 fz3 q4 fz4 q5 fz5 q6 fz6 q7 fz7
        have p0 := (blk_cell S7.out.bp 0).trans rfl
        have p1 := (blk_cell S7.out.bp 1).trans rfl
        have p2 := (blk_cell S7.out.bp 2).trans rfl
        have p3 := (blk_cell S7.out.bp 3).trans rfl
        have p4 := (blk_cell S7.out.bp 4).trans rfl
        have x0 := (blk_cell S7.out.bx 0).trans rfl
        have x1 := (blk_cell S7.out.bx 1).trans rfl
        have x2 := (blk_cell S7.out.bx 2).trans rfl
        have x3 := (blk_cell S7.out.bx 3).trans rfl
        have x4 := (blk_cell S7.out.bx 4).trans rfl
        have h := H.out
        simp only [Option.some.injEq, Prod.mk.injEq] at h
        obtain ⟨rfl, rfl, rfl, rfl, rfl, rfl, rfl, rfl⟩ := h
        clear H
        obtain ⟨o0, o1, o2, o3, o4, o5, o6, o7, f0, f1, f2, f3, f4, f5, f6, f7⟩ := spec_l05Hear.ofacts S7.out.bo
        have q0 := (blk_cell S7.out.b5 0).trans rfl
        have q1 := (blk_cell S7.out.b5 1).trans rfl
        have q2 := (blk_cell S7.out.b5 2).trans rfl
        have q3 := (blk_cell S7.out.b5 3).trans rfl
        have q4 := (blk_cell S7.out.b5 4).trans rfl
        have q5 := (blk_cell S7.out.b5 5).trans rfl
        have q6 := (blk_cell S7.out.b5 6).trans rfl
        have q7 := (blk_cell S7.out.b5 7).trans rfl
        have fz0 := blk_frozen S7.out.b5 0
        have fz1 := blk_frozen S7.out.b5 1
        have fz2 := blk_frozen S7.out.b5 2
        have fz3 := blk_frozen S7.out.b5 3
        have fz4 := blk_frozen S7.out.b5 4
        have fz5 := blk_frozen S7.out.b5 5
        have fz6 := blk_frozen S7.out.b5 6
        have fz7 := blk_frozen S7.out.b5 7
        go_wp2_with fail
        refine bodyPost_ret (results_cell_row rfl _ _ (w.heap.size + 1 + 1) 26 _ (0, 0) _ rfl (spec_l05Hear.fin S7.out.bo _ _ _ _ _ _ _ _) Try.underlying26 rfl (by kernel_rfl)) rfl ⟨_, _, rfl, spec_l05Hear.row8 S7.out.bo (Kd.R_mono S7.out.ho (fun k hk => by simp [Value.ownBlock])) _ _ _ _ _ _ _ _, Kd.R_nil _ _ _ _ _, spec_l05Hear.set8 (by omega) S7.out.bl _ _ _ _ _ _ _ _⟩
    · have h := H.out
      rw [if_neg c2] at h
      have H := Aside0.mk h
      clear h
      have d0c2 : decide (a0_1 < a1_0) = false := decide_eq_false c2
      clear c2
      go_upto_region 7 with (fail)
      refine spec_l05Hear.gen (fun W => ∃ (p b n : Int) (A : Option Addr) (c : Nat) (l : List ByteArray) (fr : Bool), spec_l05Hear.HS w W g5 a0_0 a0_1 a0_2 a0_3 A0_4 c0_4 l0_4 a1_0 a1_1 a1_2 a1_3 a1_4 a0_0 p b n A c l fr ∧ spec_l05Hear.go a0_0 a0_0 p b n l fr a1_1 a1_2 a1_3 a1_4 = some (r1, r2, r3, r4, r5, r6, r7, r8)) ⟨_, _, _, _, _, _, _, S0.out, H.out⟩ ?_
      clear p0 x0 p1 x1 p2 x2 p3 x3 p4 x4
      clear q0 fz0 q1 fz1 q2 fz2 q3 fz3 q4 fz4 q5 fz5 q6 fz6 q7 fz7
      clear S0 H
      rintro W7 ⟨p_, b_, n_, A_, c_, l_, fr_, h_, hh_⟩
      have S7 := Aside0.mk h_
      have H := Aside0.mk hh_
      clear h_ hh_
      have h := H.out
      unfold spec_l05Hear.go at h
      have H := Aside0.mk h
      clear h
      have p0 := (blk_cell S7.out.bp 0).trans rfl
      have p1 := (blk_cell S7.out.bp 1).trans rfl
      have p2 := (blk_cell S7.out.bp 2).trans rfl
      have p3 := (blk_cell S7.out.bp 3).trans rfl
      have p4 := (blk_cell S7.out.bp 4).trans rfl
      have x0 := (blk_cell S7.out.bx 0).trans rfl
      have x1 := (blk_cell S7.out.bx 1).trans rfl
      have x2 := (blk_cell S7.out.bx 2).trans rfl
      have x3 := (blk_cell S7.out.bx 3).trans rfl
      have x4 := (blk_cell S7.out.bx 4).trans rfl
      have q0 := (blk_cell S7.out.b5 0).trans rfl
      have q1 := (blk_cell S7.out.b5 1).trans rfl
      have q2 := (blk_cell S7.out.b5 2).trans rfl
      have q3 := (blk_cell S7.out.b5 3).trans rfl
      have q4 := (blk_cell S7.out.b5 4).trans rfl
      have q5 := (blk_cell S7.out.b5 5).trans rfl
      have q6 := (blk_cell S7.out.b5 6).trans rfl
      have q7 := (blk_cell S7.out.b5 7).trans rfl
      have fz0 := blk_frozen S7.out.b5 0
      have fz1 := blk_frozen S7.out.b5 1
      have fz2 := blk_frozen S7.out.b5 2
      have fz3 := blk_frozen S7.out.b5 3
      have fz4 := blk_frozen S7.out.b5 4
      have fz5 := blk_frozen S7.out.b5 5
      have fz6 := blk_frozen S7.out.b5 6
      have fz7 := blk_frozen S7.out.b5 7
      by_cases ce : a1_1 = a0_0
      · have h := H.out
        rw [if_pos ce] at h
        have H := Aside0.mk h
        clear h
        have d0ce : (a1_1 != a0_0) = false := bne_eq_false_iff_eq.mpr ce
        have d1ce : (a1_1 == a0_0) = true := beq_iff_eq.mpr ce
        clear ce
        have H1 := H.out
        replace H1 := Option.bind_eq_some_iff.mp H1
        obtain ⟨⟨b2_, l2_⟩, qa, h⟩ := H1
        have H := Aside0.mk h
        clear h
        unfold spec_l05Hear.ack at qa
        have hcl : l_.length ≤ c_ := (Kd.R_reads' S7.out.ho).2.1
        by_cases k1 : a1_3 > b_
        · rw [if_pos k1] at qa
          have e1 : decide (b_ < a1_3) = true := decide_eq_true k1
          clear k1
          by_cases k2 : a1_3 ≤ wrap64 (b_ + (l_.length : Int))
          · rw [if_pos k2] at qa
            have e2 : decide (a1_3 ≤ wrap64 (b_ + (l_.length : Int))) = true := decide_eq_true k2
            have e3 : decide (a1_3 ≤ IntKind.i64.wrap (b_ + (l_.length : Int))) = true := by rw [i64_w]; exact e2
            clear k2
            by_cases k3 : 0 ≤ wrap64 (a1_3 - b_) ∧ wrap64 (a1_3 - b_) ≤ (l_.length : Int) ∧ l_.length < 8796093022208
            · rw [if_pos k3] at qa
              simp only [Option.some.injEq, Prod.mk.injEq] at qa
              obtain ⟨rfl, rfl⟩ := qa
              obtain ⟨k3a, k3b, k3c⟩ := k3
              have K3 := Aside0.mk k3c
              clear k3c
              go_upto_region 10 with (fail)
              go_quiet (fail)
              go_upto_region 11 with (fail)
              refine spec_l05Hear.gen (fun W => spec_l05Hear.HS w W g5 a0_0 a0_1 a0_2 a0_3 A0_4 c0_4 l0_4 a1_0 a1_1 a1_2 a1_3 a1_4 a0_0 p_ b_ n_ A_ c_ l_ fr_) (S7.out.drewN _) ?_
              clear p0 x0 p1 x1 p2 x2 p3 x3 p4 x4
              clear q0 fz0 q1 fz1 q2 fz2 q3 fz3 q4 fz4 q5 fz5 q6 fz6 q7 fz7
              clear S7 e1 e2 e3
              intro Y h_
              have SY := Aside0.mk h_
              clear h_
              obtain ⟨A', hsl, hrd, hle⟩ := spec_l05Hear.cut A_ c_ l_ (wrap64 (a1_3 - b_)) k3a k3b hcl
              have HRD := Aside0.mk hrd
              clear hrd hle
              obtain ⟨l3, hl3⟩ : ∃ l3, l3 = l_.drop (wrap64 (a1_3 - b_)).toNat := ⟨_, rfl⟩
              rw [← hl3] at H hsl HRD
              have hl3n : l3.length ≤ l_.length := by rw [hl3, List.length_drop]; omega
              have HL3 := Aside0.mk hl3n
              clear hl3 hl3n k3a k3b
              obtain ⟨c', hc'⟩ : ∃ c', c' = c_ - (wrap64 (a1_3 - b_)).toNat := ⟨_, rfl⟩
              rw [← hc'] at hsl
              clear hc'
              refine start_ (n := 18) (S := (fun w' => w'.cell? ⟨w.heap.size + 1, 3, none⟩ = some (.int .i64 a1_3) ∧ w'.cell? ⟨g5, 2, none⟩ = some (.int .i64 b_) ∧ w'.cell? ⟨g5, 4, none⟩ = some (.slice A_ l_.length c_))) (ds := [17]) #[false, false, false, false, false, false, false, false, false, false, false, false, false, false, false, false, false, false] (by kernel_rfl) rfl rfl SY.out.drew.held (fun hHeld => ?_)
              refine pure_ (i := 0) (N := some 57) (v := ?_) (a' := ?_) #[true, false, false, false, false, false, false, false, false, false, false, false, false, false, false, false, false, false] rfl rfl (any_of spec_l05Hear.tab11 (by kernel_rfl)) (fun _ _ _ h => h) (Or.inl ⟨by rfl, ?_⟩) ?_ ?_
              rotate_left
              · intro w'
                go_simp
                with_reducible rfl
              rotate_left
              · simp only [Act.put, List.setIfInBounds_toArray, List.set_cons_zero, List.set_cons_succ, i64_w, i32_w]
                rfl
              refine pure_ (i := 2) (N := some 59) (v := ?_) (a' := ?_) #[true, false, true, false, false, false, false, false, false, false, false, false, false, false, false, false, false, false] rfl rfl (any_of spec_l05Hear.tab11 (by kernel_rfl)) (fun _ _ _ h => h) (Or.inl ⟨by rfl, ?_⟩) ?_ ?_
              rotate_left
              · intro w'
                go_simp
                with_reducible rfl
              rotate_left
              · simp only [Act.put, List.setIfInBounds_toArray, List.set_cons_zero, List.set_cons_succ, i64_w, i32_w]
                rfl
              refine pure_ (i := 3) (N := some 60) (v := ?_) (a' := ?_) #[true, false, true, true, false, false, false, false, false, false, false, false, false, false, false, false, false, false] rfl rfl (any_of spec_l05Hear.tab11 (by kernel_rfl)) (fun _ _ _ h => h) (Or.inl ⟨by rfl, ?_⟩) ?_ ?_
              rotate_left
              · intro w'
                go_simp
                with_reducible rfl
              rotate_left
              · simp only [Act.put, List.setIfInBounds_toArray, List.set_cons_zero, List.set_cons_succ, i64_w, i32_w]
                rfl
              refine pure_ (i := 4) (N := some 61) (v := ?_) (a' := ?_) #[true, false, true, true, true, false, false, false, false, false, false, false, false, false, false, false, false, false] rfl rfl (any_of spec_l05Hear.tab11 (by kernel_rfl)) (fun _ _ _ h => h) (Or.inl ⟨by rfl, ?_⟩) ?_ ?_
              rotate_left
              · intro w'
                go_simp
                with_reducible rfl
              rotate_left
              · simp only [Act.put, List.setIfInBounds_toArray, List.set_cons_zero, List.set_cons_succ, i64_w, i32_w]
                rfl
              refine take_ (i := 5) (N := some 62) (v := ?_) (a' := ?_) #[true, false, true, true, true, true, false, false, false, false, false, false, false, false, false, false, false, false] rfl rfl (take_of spec_l05Hear.tab11 (by kernel_rfl)) (fun _ _ _ h => h) (Or.inl ⟨by rfl, ?_⟩) hHeld ?_ ?_
              rotate_left
              · rintro w' ⟨s0, s1, s2⟩
                go_simp
                with_reducible rfl
              rotate_left
              · simp only [Act.put, List.setIfInBounds_toArray, List.set_cons_zero, List.set_cons_succ, i64_w, i32_w]
                rfl
              refine pure_ (i := 6) (N := some 63) (v := ?_) (a' := ?_) #[true, false, true, true, true, true, true, false, false, false, false, false, false, false, false, false, false, false] rfl rfl (any_of spec_l05Hear.tab11 (by kernel_rfl)) (fun _ _ _ h => h) (Or.inl ⟨by rfl, ?_⟩) ?_ ?_
              rotate_left
              · intro w'
                go_simp
                with_reducible rfl
              rotate_left
              · simp only [Act.put, List.setIfInBounds_toArray, List.set_cons_zero, List.set_cons_succ, i64_w, i32_w]
                rfl
              refine take_ (i := 7) (N := some 64) (v := ?_) (a' := ?_) #[true, false, true, true, true, true, true, true, false, false, false, false, false, false, false, false, false, false] rfl rfl (take_of spec_l05Hear.tab11 (by kernel_rfl)) (fun _ _ _ h => h) (Or.inl ⟨by rfl, ?_⟩) hHeld ?_ ?_
              rotate_left
              · rintro w' ⟨s0, s1, s2⟩
                go_simp
                with_reducible rfl
              rotate_left
              · simp only [Act.put, List.setIfInBounds_toArray, List.set_cons_zero, List.set_cons_succ, i64_w, i32_w]
                rfl
              refine pure_ (i := 8) (N := some 65) (v := ?_) (a' := ?_) #[true, false, true, true, true, true, true, true, true, false, false, false, false, false, false, false, false, false] rfl rfl (any_of spec_l05Hear.tab11 (by kernel_rfl)) (fun _ _ _ h => h) (Or.inl ⟨by rfl, ?_⟩) ?_ ?_
              rotate_left
              · intro w'
                go_simp
                with_reducible rfl
              rotate_left
              · simp only [Act.put, List.setIfInBounds_toArray, List.set_cons_zero, List.set_cons_succ, i64_w, i32_w]
                rfl
              refine pure_ (i := 9) (N := some 66) (v := ?_) (a' := ?_) #[true, false, true, true, true, true, true, true, true, true, false, false, false, false, false, false, false, false] rfl rfl (any_of spec_l05Hear.tab11 (by kernel_rfl)) (fun _ _ _ h => h) (Or.inl ⟨by rfl, ?_⟩) ?_ ?_
              rotate_left
              · intro w'
                go_simp
                with_reducible rfl
              rotate_left
              · simp only [Act.put, List.setIfInBounds_toArray, List.set_cons_zero, List.set_cons_succ, i64_w, i32_w]
                rfl
              refine pure_ (i := 10) (N := some 67) (v := ?_) (a' := ?_) #[true, false, true, true, true, true, true, true, true, true, true, false, false, false, false, false, false, false] rfl rfl (any_of spec_l05Hear.tab11 (by kernel_rfl)) (fun _ _ _ h => h) (Or.inl ⟨by rfl, ?_⟩) ?_ ?_
              rotate_left
              · intro w'
                go_simp
                with_reducible rfl
              rotate_left
              · simp only [Act.put, List.setIfInBounds_toArray, List.set_cons_zero, List.set_cons_succ, i64_w, i32_w]
                rfl
              refine take_ (i := 11) (N := some 68) (v := ?_) (a' := ?_) #[true, false, true, true, true, true, true, true, true, true, true, true, false, false, false, false, false, false] rfl rfl (take_of spec_l05Hear.tab11 (by kernel_rfl)) (fun _ _ _ h => h) (Or.inl ⟨by rfl, ?_⟩) hHeld ?_ ?_
              rotate_left
              · rintro w' ⟨s0, s1, s2⟩
                go_simp
                with_reducible rfl
              rotate_left
              · simp only [Act.put, List.setIfInBounds_toArray, List.set_cons_zero, List.set_cons_succ, i64_w, i32_w]
                rfl
              refine pure_ (i := 12) (N := some 69) (v := ?_) (a' := ?_) #[true, false, true, true, true, true, true, true, true, true, true, true, true, false, false, false, false, false] rfl rfl (any_of spec_l05Hear.tab11 (by kernel_rfl)) (fun _ _ _ h => h) (Or.inl ⟨by rfl, ?_⟩) ?_ ?_
              rotate_left
              · intro w'
                go_simp
                with_reducible rfl
              rotate_left
              · simp only [Act.put, List.setIfInBounds_toArray, List.set_cons_zero, List.set_cons_succ, i64_w, i32_w]
                rfl
              refine pure_ (i := 13) (N := some 70) (v := ?_) (a' := ?_) #[true, false, true, true, true, true, true, true, true, true, true, true, true, true, false, false, false, false] rfl rfl (any_of spec_l05Hear.tab11 (by kernel_rfl)) (fun _ _ _ h => h) (Or.inl ⟨by rfl, ?_⟩) ?_ ?_
              rotate_left
              · intro w'
                go_simp
                with_reducible rfl
              rotate_left
              · simp only [Act.put, List.setIfInBounds_toArray, List.set_cons_zero, List.set_cons_succ, i64_w, i32_w]
                rfl
              refine one_ (i := 1) (N := some 58) #[true, true, true, true, true, true, true, true, true, true, true, true, true, true, false, false, false, false] rfl rfl (one_of spec_l05Hear.tab11 (by kernel_rfl)) (by decide) (fun K hK => ?_)
              refine Kd.R_lit_step Kd.string (w0 := w) w.heap.size 9 (by rfl) (N := 58) rfl (xs := ([] : List ByteArray)) (inner := []) (ok := fun _ => True) (okp := fun _ => True) ?hr ?hp (fun _ hk => hk) trivial SY.out.drew.bl SY.out.drew.bl.size (by simp) ?_
              (case hr => first | (go_simp; done) | (go_simp; rfl))
              (case hp => exact (Reps.none _ _))
              intro v5 w5 ho5 hb5 hg5_ hn5
              have SZ := Aside0.mk (SY.out.drew.below (spec_l05Hear.grownNone hg5_))
              have HO5 := Aside0.mk ho5
              have HN5 := Aside0.mk (show ∀ k, v5.ownBlock = some k → some k ≠ (Value.slice A_ l_.length c_).ownBlock from fun k hk e_ => by obtain ⟨b9, hb9, hle9⟩ := hn5; rw [hk] at hb9; injection hb9 with hb9; subst hb9; have h9 := ((Kd.R_bound SY.out.drew.ho).1 k e_.symm).2.2.1; omega)
              clear ho5 hb5 hg5_ hn5 SY
              refine hK.out _ _ SZ.out.held (fun hHeld => ?_)
              clear hK K
              refine norm_ (a' := ?_) ?_ ?_
              rotate_left
              · show Act.put _ (some 58) _ = _
                simp only [Act.put, List.setIfInBounds_toArray, List.set_cons_zero, List.set_cons_succ, i64_w, i32_w]
                rfl
              refine one_ (i := 14) (N := some 71) #[true, true, true, true, true, true, true, true, true, true, true, true, true, true, true, false, false, false] rfl rfl (one_of spec_l05Hear.tab11 (by kernel_rfl)) (by decide) (fun K hK => ?_)
              refine Kd.R_append_rows_step Kd.string (w0 := w) w.heap.size (by rfl) (.tmp 58) (.tmp 70) 22 9 (.string ⟨#[]⟩) 16 rfl Try.underlying22 info9 rfl (by decide) (by omega) v5 [] l3 A' l3.length c' (fun _ => True) (fun _ => False) rfl rfl HO5.out (HRD.out _ (Kd.R_reads' SZ.out.ho).2.2) (fun _ _ h => h) (fun _ h => h.elim) (fun _ _ => trivial) SZ.out.bl SZ.out.bl.size (by have h1 := K3.out; have h2 := HL3.out; simp only [List.length_nil]; omega) ?_
              intro v6 w6 ho6 hb6 hg6 hat6
              rw [List.nil_append] at ho6
              obtain ⟨A6, c6, rfl⟩ := Kd.R_slice ho6
              have SU := Aside0.mk (SZ.out.grown HO5.out HN5.out hg6 hb6)
              have HO6 := Aside0.mk ho6
              clear ho6 hb6 hg6 hat6 SZ HO5 HN5 HRD hsl
              refine hK.out _ _ SU.out.held (fun hHeld => ?_)
              clear hK K
              refine norm_ (a' := ?_) ?_ ?_
              rotate_left
              · show Act.put _ (some 71) _ = _
                simp only [Act.put, List.setIfInBounds_toArray, List.set_cons_zero, List.set_cons_succ, i64_w, i32_w]
                rfl
              refine pure_ (i := 15) (N := some 72) (v := ?_) (a' := ?_) #[true, true, true, true, true, true, true, true, true, true, true, true, true, true, true, true, false, false] rfl rfl (any_of spec_l05Hear.tab11 (by kernel_rfl)) (fun _ _ _ h => h) (Or.inl ⟨by rfl, ?_⟩) ?_ ?_
              rotate_left
              · intro w'
                go_simp
                with_reducible rfl
              rotate_left
              · simp only [Act.put, List.setIfInBounds_toArray, List.set_cons_zero, List.set_cons_succ, i64_w, i32_w]
                rfl
              refine pure_ (i := 16) (N := some 73) (v := ?_) (a' := ?_) #[true, true, true, true, true, true, true, true, true, true, true, true, true, true, true, true, true, false] rfl rfl (any_of spec_l05Hear.tab11 (by kernel_rfl)) (fun _ _ _ h => h) (Or.inl ⟨by rfl, ?_⟩) ?_ ?_
              rotate_left
              · intro w'
                go_simp
                with_reducible rfl
              rotate_left
              · simp only [Act.put, List.setIfInBounds_toArray, List.set_cons_zero, List.set_cons_succ, i64_w, i32_w]
                rfl
              refine last_ (i := 17) (N := none) #[true, true, true, true, true, true, true, true, true, true, true, true, true, true, true, true, true, true] rfl rfl (one_of spec_l05Hear.tab11 (by kernel_rfl)) (by decide) (fun K hK => ?_)
              have hs4 := (blk_cell SU.out.b5 4).trans rfl
              have hf4 := blk_frozen SU.out.b5 4
              refine skip_ (w1 := ?_) (by rfl) rfl ?_ ?_
              rotate_left
              · go_simp
                rfl
              refine hK.out _ _ ?_
              clear hK K
              refine done_ (done_of spec_l05Hear.tab11 (by kernel_rfl)) ?_
              go_upto_region 12 with (fail)
              refine spec_l05Hear.gen (fun W => spec_l05Hear.HS w W g5 a0_0 a0_1 a0_2 a0_3 A0_4 c0_4 l0_4 a1_0 a1_1 a1_2 a1_3 a1_4 a0_0 p_ b_ n_ A6 c6 l3 fr_) (SU.out.row HO6.out) ?_
              (try clear hs4 hf4 hHeld)
              clear SU HO6
              intro T h_
              have ST1 := Aside0.mk h_
              clear h_
              have p0 := (blk_cell ST1.out.bp 0).trans rfl
              have p1 := (blk_cell ST1.out.bp 1).trans rfl
              have p2 := (blk_cell ST1.out.bp 2).trans rfl
              have p3 := (blk_cell ST1.out.bp 3).trans rfl
              have p4 := (blk_cell ST1.out.bp 4).trans rfl
              have x0 := (blk_cell ST1.out.bx 0).trans rfl
              have x1 := (blk_cell ST1.out.bx 1).trans rfl
              have x2 := (blk_cell ST1.out.bx 2).trans rfl
              have x3 := (blk_cell ST1.out.bx 3).trans rfl
              have x4 := (blk_cell ST1.out.bx 4).trans rfl
              have q0 := (blk_cell ST1.out.b5 0).trans rfl
              have q1 := (blk_cell ST1.out.b5 1).trans rfl
              have q2 := (blk_cell ST1.out.b5 2).trans rfl
              have q3 := (blk_cell ST1.out.b5 3).trans rfl
              have q4 := (blk_cell ST1.out.b5 4).trans rfl
              have q5 := (blk_cell ST1.out.b5 5).trans rfl
              have q6 := (blk_cell ST1.out.b5 6).trans rfl
              have q7 := (blk_cell ST1.out.b5 7).trans rfl
              have fz0 := blk_frozen ST1.out.b5 0
              have fz1 := blk_frozen ST1.out.b5 1
              have fz2 := blk_frozen ST1.out.b5 2
              have fz3 := blk_frozen ST1.out.b5 3
              have fz4 := blk_frozen ST1.out.b5 4
              have fz5 := blk_frozen ST1.out.b5 5
              have fz6 := blk_frozen ST1.out.b5 6
              have fz7 := blk_frozen ST1.out.b5 7
              go_upto_region 13 with (fail)
              refine spec_l05Hear.gen (fun W => spec_l05Hear.HS w W g5 a0_0 a0_1 a0_2 a0_3 A0_4 c0_4 l0_4 a1_0 a1_1 a1_2 a1_3 a1_4 a0_0 p_ a1_3 n_ A6 c6 l3 fr_) (ST1.out.sb a1_3) ?_
              clear p0 x0 p1 x1 p2 x2 p3 x3 p4 x4
              clear q0 fz0 q1 fz1 q2 fz2 q3 fz3 q4 fz4 q5 fz5 q6 fz6 q7 fz7
              clear ST1
              intro R h_
              have SR := Aside0.mk h_
              clear h_
              have p0 := (blk_cell SR.out.bp 0).trans rfl
              have p1 := (blk_cell SR.out.bp 1).trans rfl
              have p2 := (blk_cell SR.out.bp 2).trans rfl
              have p3 := (blk_cell SR.out.bp 3).trans rfl
              have p4 := (blk_cell SR.out.bp 4).trans rfl
              have x0 := (blk_cell SR.out.bx 0).trans rfl
              have x1 := (blk_cell SR.out.bx 1).trans rfl
              have x2 := (blk_cell SR.out.bx 2).trans rfl
              have x3 := (blk_cell SR.out.bx 3).trans rfl
              have x4 := (blk_cell SR.out.bx 4).trans rfl
              have q0 := (blk_cell SR.out.b5 0).trans rfl
              have q1 := (blk_cell SR.out.b5 1).trans rfl
              have q2 := (blk_cell SR.out.b5 2).trans rfl
              have q3 := (blk_cell SR.out.b5 3).trans rfl
              have q4 := (blk_cell SR.out.b5 4).trans rfl
              have q5 := (blk_cell SR.out.b5 5).trans rfl
              have q6 := (blk_cell SR.out.b5 6).trans rfl
              have q7 := (blk_cell SR.out.b5 7).trans rfl
              have fz0 := blk_frozen SR.out.b5 0
              have fz1 := blk_frozen SR.out.b5 1
              have fz2 := blk_frozen SR.out.b5 2
              have fz3 := blk_frozen SR.out.b5 3
              have fz4 := blk_frozen SR.out.b5 4
              have fz5 := blk_frozen SR.out.b5 5
              have fz6 := blk_frozen SR.out.b5 6
              have fz7 := blk_frozen SR.out.b5 7
              by_cases cn : a1_2 = wrap64 (n_ + 1)
              · have h := H.out
                rw [if_pos cn] at h
                have H := Aside0.mk h
                clear h
                have d0cn : (a1_2 != wrap64 (n_ + 1)) = false := bne_eq_false_iff_eq.mpr cn
                have d1cn : (a1_2 == wrap64 (n_ + 1)) = true := beq_iff_eq.mpr cn
                have d2cn : (a1_2 == IntKind.i64.wrap (n_ + 1)) = true := by rw [i64_w]; exact d1cn
                clear cn
                go_upto_region 13 with (fail)
                go_quiet (fail)
                go_upto_region 14 with (fail)
                refine spec_l05Hear.gen (fun W => spec_l05Hear.HS w W g5 a0_0 a0_1 a0_2 a0_3 A0_4 c0_4 l0_4 a1_0 a1_1 a1_2 a1_3 a1_4 a0_0 p_ a1_3 n_ A6 c6 l3 fr_) (SR.out.drewN _) ?_
                clear p0 x0 p1 x1 p2 x2 p3 x3 p4 x4
                clear q0 fz0 q1 fz1 q2 fz2 q3 fz3 q4 fz4 q5 fz5 q6 fz6 q7 fz7
                clear SR
                intro X h_
                have SX := Aside0.mk h_
                clear h_
                have h := H.out
                simp only [Option.some.injEq, Prod.mk.injEq] at h
                obtain ⟨rfl, rfl, rfl, rfl, rfl, rfl, rfl, rfl⟩ := h
                clear H
                have p0 := (blk_cell SX.out.bp 0).trans rfl
                have p1 := (blk_cell SX.out.bp 1).trans rfl
                have p2 := (blk_cell SX.out.bp 2).trans rfl
                have p3 := (blk_cell SX.out.bp 3).trans rfl
                have p4 := (blk_cell SX.out.bp 4).trans rfl
                have x0 := (blk_cell SX.out.bx 0).trans rfl
                have x1 := (blk_cell SX.out.bx 1).trans rfl
                have x2 := (blk_cell SX.out.bx 2).trans rfl
                have x3 := (blk_cell SX.out.bx 3).trans rfl
                have x4 := (blk_cell SX.out.bx 4).trans rfl
                have q0 := (blk_cell SX.out.b5 0).trans rfl
                have q1 := (blk_cell SX.out.b5 1).trans rfl
                have q2 := (blk_cell SX.out.b5 2).trans rfl
                have q3 := (blk_cell SX.out.b5 3).trans rfl
                have q4 := (blk_cell SX.out.b5 4).trans rfl
                have q5 := (blk_cell SX.out.b5 5).trans rfl
                have q6 := (blk_cell SX.out.b5 6).trans rfl
                have q7 := (blk_cell SX.out.b5 7).trans rfl
                have fz0 := blk_frozen SX.out.b5 0
                have fz1 := blk_frozen SX.out.b5 1
                have fz2 := blk_frozen SX.out.b5 2
                have fz3 := blk_frozen SX.out.b5 3
                have fz4 := blk_frozen SX.out.b5 4
                have fz5 := blk_frozen SX.out.b5 5
                have fz6 := blk_frozen SX.out.b5 6
                have fz7 := blk_frozen SX.out.b5 7
                go_upto_region 15 with (fail)
                refine spec_l05Hear.gen (fun W => spec_l05Hear.HS w W g5 a0_0 a0_1 a0_2 a0_3 A0_4 c0_4 l0_4 a1_0 a1_1 a1_2 a1_3 a1_4 a0_0 p_ a1_3 a1_2 A6 c6 l3 fr_) (SX.out.sn a1_2) ?_
                clear p0 x0 p1 x1 p2 x2 p3 x3 p4 x4
                clear q0 fz0 q1 fz1 q2 fz2 q3 fz3 q4 fz4 q5 fz5 q6 fz6 q7 fz7
                intro V h_
                have SV := Aside0.mk h_
                clear h_ SX
                have x4 := (blk_cell SV.out.bx 4).trans rfl
                have q5 := (blk_cell SV.out.b5 5).trans rfl
                have fz5 := blk_frozen SV.out.b5 5
                have q5a := (blk_cell (blk_alloc SV.out.b5 (.cells #[.string a1_4] 9)) 5).trans rfl
                have fz5a := blk_frozen (blk_alloc SV.out.b5 (.cells #[.string a1_4] 9)) 5
                go_upto_region 16 with (fail)
                refine spec_l05Hear.gen (fun W => ∃ gt, W.heap[w.heap.size + 1 + 1]? = some (.cells #[.int .i64 0, .int .i64 0, .int .i64 0, .int .i64 0, .slice none 0 0, .slice none 0 0, .bool false, .int .i64 0] 26 (0, 0)) ∧ W.heap[g5]? = some (.cells #[.int .i64 a0_0, .int .i64 p_, .int .i64 a1_3, .int .i64 a1_2, .slice A6 l3.length c6, .slice (some ⟨gt, 0, none⟩) 1 1, .bool fr_, .int .i64 0] 26 (0, 0)) ∧ Kd.R Kd.string 9 W w.heap.size (fun k_ => some k_ ≠ (Value.slice (some ⟨gt, 0, none⟩) 1 1).ownBlock) (.slice A6 l3.length c6) l3 ∧ Kd.R Kd.string 9 W w.heap.size (fun k_ => some k_ ≠ (Value.slice A6 l3.length c6).ownBlock) (.slice (some ⟨gt, 0, none⟩) 1 1) [a1_4] ∧ Below w.heap.size w W) ?_ ?_
                · first
                  | exact ⟨V.heap.size, spec_l05Hear.texts SV.out⟩
                  | exact ⟨V.heap.size, spec_l05Hear.texts2 SV.out⟩
                clear x4 q5 fz5 q5a fz5a
                rintro U ⟨gt, bo, b5, h4, h5, bl⟩
                obtain ⟨o0, o1, o2, o3, o4, o5, o6, o7, f0, f1, f2, f3, f4, f5, f6, f7⟩ := spec_l05Hear.ofacts bo
                have q0 := (blk_cell b5 0).trans rfl
                have q1 := (blk_cell b5 1).trans rfl
                have q2 := (blk_cell b5 2).trans rfl
                have q3 := (blk_cell b5 3).trans rfl
                have q4 := (blk_cell b5 4).trans rfl
                have q5 := (blk_cell b5 5).trans rfl
                have q6 := (blk_cell b5 6).trans rfl
                have q7 := (blk_cell b5 7).trans rfl
                have BO := Aside0.mk bo
                have H4 := Aside0.mk h4
                have H5 := Aside0.mk h5
                have BL := Aside0.mk bl
                clear bo b5 h4 h5 bl SV
                go_wp2_with fail
                refine bodyPost_ret (results_cell_row rfl _ _ (w.heap.size + 1 + 1) 26 _ (0, 0) _ rfl (spec_l05Hear.fin BO.out _ _ _ _ _ _ _ _) Try.underlying26 rfl (by kernel_rfl)) rfl ⟨_, _, rfl, spec_l05Hear.row8 BO.out H4.out _ _ _ _ _ _ _ _, spec_l05Hear.row8 BO.out H5.out _ _ _ _ _ _ _ _, spec_l05Hear.set8 (by omega) BL.out _ _ _ _ _ _ _ _⟩
              · have h := H.out
                rw [if_neg cn] at h
                have H := Aside0.mk h
                clear h
                have d0cn : (a1_2 != wrap64 (n_ + 1)) = true := bne_iff_ne.mpr cn
                have d1cn : (a1_2 == wrap64 (n_ + 1)) = false := beq_eq_false_iff_ne.mpr cn
                have d2cn : (a1_2 == IntKind.i64.wrap (n_ + 1)) = false := by rw [i64_w]; exact d1cn
                clear cn
                go_upto_region 13 with (fail)
                go_quiet (fail)
                go_upto_region 16 with (fail)
                refine spec_l05Hear.gen (fun W => spec_l05Hear.HS w W g5 a0_0 a0_1 a0_2 a0_3 A0_4 c0_4 l0_4 a1_0 a1_1 a1_2 a1_3 a1_4 a0_0 p_ a1_3 n_ A6 c6 l3 fr_) (SR.out.drewN _) ?_
                clear p0 x0 p1 x1 p2 x2 p3 x3 p4 x4
                clear q0 fz0 q1 fz1 q2 fz2 q3 fz3 q4 fz4 q5 fz5 q6 fz6 q7 fz7
                clear SR
                intro X h_
                have SX := Aside0.mk h_
                clear h_
                have h := H.out
                simp only [Option.some.injEq, Prod.mk.injEq] at h
                obtain ⟨rfl, rfl, rfl, rfl, rfl, rfl, rfl, rfl⟩ := h
                clear H
                obtain ⟨o0, o1, o2, o3, o4, o5, o6, o7, f0, f1, f2, f3, f4, f5, f6, f7⟩ := spec_l05Hear.ofacts SX.out.bo
                have q0 := (blk_cell SX.out.b5 0).trans rfl
                have q1 := (blk_cell SX.out.b5 1).trans rfl
                have q2 := (blk_cell SX.out.b5 2).trans rfl
                have q3 := (blk_cell SX.out.b5 3).trans rfl
                have q4 := (blk_cell SX.out.b5 4).trans rfl
                have q5 := (blk_cell SX.out.b5 5).trans rfl
                have q6 := (blk_cell SX.out.b5 6).trans rfl
                have q7 := (blk_cell SX.out.b5 7).trans rfl
                have fz0 := blk_frozen SX.out.b5 0
                have fz1 := blk_frozen SX.out.b5 1
                have fz2 := blk_frozen SX.out.b5 2
                have fz3 := blk_frozen SX.out.b5 3
                have fz4 := blk_frozen SX.out.b5 4
                have fz5 := blk_frozen SX.out.b5 5
                have fz6 := blk_frozen SX.out.b5 6
                have fz7 := blk_frozen SX.out.b5 7
                go_wp2_with fail
                refine bodyPost_ret (results_cell_row rfl _ _ (w.heap.size + 1 + 1) 26 _ (0, 0) _ rfl (spec_l05Hear.fin SX.out.bo _ _ _ _ _ _ _ _) Try.underlying26 rfl (by kernel_rfl)) rfl ⟨_, _, rfl, spec_l05Hear.row8 SX.out.bo (Kd.R_mono SX.out.ho (fun k hk => by simp [Value.ownBlock])) _ _ _ _ _ _ _ _, Kd.R_nil _ _ _ _ _, spec_l05Hear.set8 (by omega) SX.out.bl _ _ _ _ _ _ _ _⟩
            · rw [if_neg k3] at qa; cases qa
          · rw [if_neg k2] at qa
            have e2 : decide (a1_3 ≤ wrap64 (b_ + (l_.length : Int))) = false := decide_eq_false k2
            have e3 : decide (a1_3 ≤ IntKind.i64.wrap (b_ + (l_.length : Int))) = false := by rw [i64_w]; exact e2
            clear k2
            simp only [Option.some.injEq, Prod.mk.injEq] at qa
            obtain ⟨rfl, rfl⟩ := qa
            go_upto_region 10 with (fail)
            go_quiet (fail)
            go_upto_region 13 with (fail)
            refine spec_l05Hear.gen (fun W => spec_l05Hear.HS w W g5 a0_0 a0_1 a0_2 a0_3 A0_4 c0_4 l0_4 a1_0 a1_1 a1_2 a1_3 a1_4 a0_0 p_ b_ n_ A_ c_ l_ fr_) (S7.out.drewN _) ?_
            clear p0 x0 p1 x1 p2 x2 p3 x3 p4 x4
            clear q0 fz0 q1 fz1 q2 fz2 q3 fz3 q4 fz4 q5 fz5 q6 fz6 q7 fz7
            clear S7 hcl
            intro R h_
            have SR := Aside0.mk h_
            clear h_
            have p0 := (blk_cell SR.out.bp 0).trans rfl
            have p1 := (blk_cell SR.out.bp 1).trans rfl
            have p2 := (blk_cell SR.out.bp 2).trans rfl
            have p3 := (blk_cell SR.out.bp 3).trans rfl
            have p4 := (blk_cell SR.out.bp 4).trans rfl
            have x0 := (blk_cell SR.out.bx 0).trans rfl
            have x1 := (blk_cell SR.out.bx 1).trans rfl
            have x2 := (blk_cell SR.out.bx 2).trans rfl
            have x3 := (blk_cell SR.out.bx 3).trans rfl
            have x4 := (blk_cell SR.out.bx 4).trans rfl
            have q0 := (blk_cell SR.out.b5 0).trans rfl
            have q1 := (blk_cell SR.out.b5 1).trans rfl
            have q2 := (blk_cell SR.out.b5 2).trans rfl
            have q3 := (blk_cell SR.out.b5 3).trans rfl
            have q4 := (blk_cell SR.out.b5 4).trans rfl
            have q5 := (blk_cell SR.out.b5 5).trans rfl
            have q6 := (blk_cell SR.out.b5 6).trans rfl
            have q7 := (blk_cell SR.out.b5 7).trans rfl
            have fz0 := blk_frozen SR.out.b5 0
            have fz1 := blk_frozen SR.out.b5 1
            have fz2 := blk_frozen SR.out.b5 2
            have fz3 := blk_frozen SR.out.b5 3
            have fz4 := blk_frozen SR.out.b5 4
            have fz5 := blk_frozen SR.out.b5 5
            have fz6 := blk_frozen SR.out.b5 6
            have fz7 := blk_frozen SR.out.b5 7
            by_cases cn : a1_2 = wrap64 (n_ + 1)
            · have h := H.out
              rw [if_pos cn] at h
              have H := Aside0.mk h
              clear h
              have d0cn : (a1_2 != wrap64 (n_ + 1)) = false := bne_eq_false_iff_eq.mpr cn
              have d1cn : (a1_2 == wrap64 (n_ + 1)) = true := beq_iff_eq.mpr cn
              have d2cn : (a1_2 == IntKind.i64.wrap (n_ + 1)) = true := by rw [i64_w]; exact d1cn
              clear cn
              go_upto_region 13 with (fail)
              go_quiet (fail)
              go_upto_region 14 with (fail)
              refine spec_l05Hear.gen (fun W => spec_l05Hear.HS w W g5 a0_0 a0_1 a0_2 a0_3 A0_4 c0_4 l0_4 a1_0 a1_1 a1_2 a1_3 a1_4 a0_0 p_ b_ n_ A_ c_ l_ fr_) (SR.out.drewN _) ?_
              clear p0 x0 p1 x1 p2 x2 p3 x3 p4 x4
              clear q0 fz0 q1 fz1 q2 fz2 q3 fz3 q4 fz4 q5 fz5 q6 fz6 q7 fz7
              clear SR
              intro X h_
              have SX := Aside0.mk h_
              clear h_
              have h := H.out
              simp only [Option.some.injEq, Prod.mk.injEq] at h
              obtain ⟨rfl, rfl, rfl, rfl, rfl, rfl, rfl, rfl⟩ := h
              clear H
              have p0 := (blk_cell SX.out.bp 0).trans rfl
              have p1 := (blk_cell SX.out.bp 1).trans rfl
              have p2 := (blk_cell SX.out.bp 2).trans rfl
              have p3 := (blk_cell SX.out.bp 3).trans rfl
              have p4 := (blk_cell SX.out.bp 4).trans rfl
              have x0 := (blk_cell SX.out.bx 0).trans rfl
              have x1 := (blk_cell SX.out.bx 1).trans rfl
              have x2 := (blk_cell SX.out.bx 2).trans rfl
              have x3 := (blk_cell SX.out.bx 3).trans rfl
              have x4 := (blk_cell SX.out.bx 4).trans rfl
              have q0 := (blk_cell SX.out.b5 0).trans rfl
              have q1 := (blk_cell SX.out.b5 1).trans rfl
              have q2 := (blk_cell SX.out.b5 2).trans rfl
              have q3 := (blk_cell SX.out.b5 3).trans rfl
              have q4 := (blk_cell SX.out.b5 4).trans rfl
              have q5 := (blk_cell SX.out.b5 5).trans rfl
              have q6 := (blk_cell SX.out.b5 6).trans rfl
              have q7 := (blk_cell SX.out.b5 7).trans rfl
              have fz0 := blk_frozen SX.out.b5 0
              have fz1 := blk_frozen SX.out.b5 1
              have fz2 := blk_frozen SX.out.b5 2
              have fz3 := blk_frozen SX.out.b5 3
              have fz4 := blk_frozen SX.out.b5 4
              have fz5 := blk_frozen SX.out.b5 5
              have fz6 := blk_frozen SX.out.b5 6
              have fz7 := blk_frozen SX.out.b5 7
              go_upto_region 15 with (fail)
              refine spec_l05Hear.gen (fun W => spec_l05Hear.HS w W g5 a0_0 a0_1 a0_2 a0_3 A0_4 c0_4 l0_4 a1_0 a1_1 a1_2 a1_3 a1_4 a0_0 p_ b_ a1_2 A_ c_ l_ fr_) (SX.out.sn a1_2) ?_
              clear p0 x0 p1 x1 p2 x2 p3 x3 p4 x4
              clear q0 fz0 q1 fz1 q2 fz2 q3 fz3 q4 fz4 q5 fz5 q6 fz6 q7 fz7
              intro V h_
              have SV := Aside0.mk h_
              clear h_ SX
              have x4 := (blk_cell SV.out.bx 4).trans rfl
              have q5 := (blk_cell SV.out.b5 5).trans rfl
              have fz5 := blk_frozen SV.out.b5 5
              have q5a := (blk_cell (blk_alloc SV.out.b5 (.cells #[.string a1_4] 9)) 5).trans rfl
              have fz5a := blk_frozen (blk_alloc SV.out.b5 (.cells #[.string a1_4] 9)) 5
              go_upto_region 16 with (fail)
              refine spec_l05Hear.gen (fun W => ∃ gt, W.heap[w.heap.size + 1 + 1]? = some (.cells #[.int .i64 0, .int .i64 0, .int .i64 0, .int .i64 0, .slice none 0 0, .slice none 0 0, .bool false, .int .i64 0] 26 (0, 0)) ∧ W.heap[g5]? = some (.cells #[.int .i64 a0_0, .int .i64 p_, .int .i64 b_, .int .i64 a1_2, .slice A_ l_.length c_, .slice (some ⟨gt, 0, none⟩) 1 1, .bool fr_, .int .i64 0] 26 (0, 0)) ∧ Kd.R Kd.string 9 W w.heap.size (fun k_ => some k_ ≠ (Value.slice (some ⟨gt, 0, none⟩) 1 1).ownBlock) (.slice A_ l_.length c_) l_ ∧ Kd.R Kd.string 9 W w.heap.size (fun k_ => some k_ ≠ (Value.slice A_ l_.length c_).ownBlock) (.slice (some ⟨gt, 0, none⟩) 1 1) [a1_4] ∧ Below w.heap.size w W) ?_ ?_
              · first
                | exact ⟨V.heap.size, spec_l05Hear.texts SV.out⟩
                | exact ⟨V.heap.size, spec_l05Hear.texts2 SV.out⟩
              clear x4 q5 fz5 q5a fz5a
              rintro U ⟨gt, bo, b5, h4, h5, bl⟩
              obtain ⟨o0, o1, o2, o3, o4, o5, o6, o7, f0, f1, f2, f3, f4, f5, f6, f7⟩ := spec_l05Hear.ofacts bo
              have q0 := (blk_cell b5 0).trans rfl
              have q1 := (blk_cell b5 1).trans rfl
              have q2 := (blk_cell b5 2).trans rfl
              have q3 := (blk_cell b5 3).trans rfl
              have q4 := (blk_cell b5 4).trans rfl
              have q5 := (blk_cell b5 5).trans rfl
              have q6 := (blk_cell b5 6).trans rfl
              have q7 := (blk_cell b5 7).trans rfl
              have BO := Aside0.mk bo
              have H4 := Aside0.mk h4
              have H5 := Aside0.mk h5
              have BL := Aside0.mk bl
              clear bo b5 h4 h5 bl SV
              go_wp2_with fail
              refine bodyPost_ret (results_cell_row rfl _ _ (w.heap.size + 1 + 1) 26 _ (0, 0) _ rfl (spec_l05Hear.fin BO.out _ _ _ _ _ _ _ _) Try.underlying26 rfl (by kernel_rfl)) rfl ⟨_, _, rfl, spec_l05Hear.row8 BO.out H4.out _ _ _ _ _ _ _ _, spec_l05Hear.row8 BO.out H5.out _ _ _ _ _ _ _ _, spec_l05Hear.set8 (by omega) BL.out _ _ _ _ _ _ _ _⟩
            · have h := H.out
              rw [if_neg cn] at h
              have H := Aside0.mk h
              clear h
              have d0cn : (a1_2 != wrap64 (n_ + 1)) = true := bne_iff_ne.mpr cn
              have d1cn : (a1_2 == wrap64 (n_ + 1)) = false := beq_eq_false_iff_ne.mpr cn
              have d2cn : (a1_2 == IntKind.i64.wrap (n_ + 1)) = false := by rw [i64_w]; exact d1cn
              clear cn
              go_upto_region 13 with (fail)
              go_quiet (fail)
              go_upto_region 16 with (fail)
              refine spec_l05Hear.gen (fun W => spec_l05Hear.HS w W g5 a0_0 a0_1 a0_2 a0_3 A0_4 c0_4 l0_4 a1_0 a1_1 a1_2 a1_3 a1_4 a0_0 p_ b_ n_ A_ c_ l_ fr_) (SR.out.drewN _) ?_
              clear p0 x0 p1 x1 p2 x2 p3 x3 p4 x4
              clear q0 fz0 q1 fz1 q2 fz2 q3 fz3 q4 fz4 q5 fz5 q6 fz6 q7 fz7
              clear SR
              intro X h_
              have SX := Aside0.mk h_
              clear h_
              have h := H.out
              simp only [Option.some.injEq, Prod.mk.injEq] at h
              obtain ⟨rfl, rfl, rfl, rfl, rfl, rfl, rfl, rfl⟩ := h
              clear H
              obtain ⟨o0, o1, o2, o3, o4, o5, o6, o7, f0, f1, f2, f3, f4, f5, f6, f7⟩ := spec_l05Hear.ofacts SX.out.bo
              have q0 := (blk_cell SX.out.b5 0).trans rfl
              have q1 := (blk_cell SX.out.b5 1).trans rfl
              have q2 := (blk_cell SX.out.b5 2).trans rfl
              have q3 := (blk_cell SX.out.b5 3).trans rfl
              have q4 := (blk_cell SX.out.b5 4).trans rfl
              have q5 := (blk_cell SX.out.b5 5).trans rfl
              have q6 := (blk_cell SX.out.b5 6).trans rfl
              have q7 := (blk_cell SX.out.b5 7).trans rfl
              have fz0 := blk_frozen SX.out.b5 0
              have fz1 := blk_frozen SX.out.b5 1
              have fz2 := blk_frozen SX.out.b5 2
              have fz3 := blk_frozen SX.out.b5 3
              have fz4 := blk_frozen SX.out.b5 4
              have fz5 := blk_frozen SX.out.b5 5
              have fz6 := blk_frozen SX.out.b5 6
              have fz7 := blk_frozen SX.out.b5 7
              go_wp2_with fail
              refine bodyPost_ret (results_cell_row rfl _ _ (w.heap.size + 1 + 1) 26 _ (0, 0) _ rfl (spec_l05Hear.fin SX.out.bo _ _ _ _ _ _ _ _) Try.underlying26 rfl (by kernel_rfl)) rfl ⟨_, _, rfl, spec_l05Hear.row8 SX.out.bo (Kd.R_mono SX.out.ho (fun k hk => by simp [Value.ownBlock])) _ _ _ _ _ _ _ _, Kd.R_nil _ _ _ _ _, spec_l05Hear.set8 (by omega) SX.out.bl _ _ _ _ _ _ _ _⟩
        · rw [if_neg k1] at qa
          have e1 : decide (b_ < a1_3) = false := decide_eq_false k1
          clear k1
          simp only [Option.some.injEq, Prod.mk.injEq] at qa
          obtain ⟨rfl, rfl⟩ := qa
          go_upto_region 10 with (fail)
          go_quiet (fail)
          go_upto_region 13 with (fail)
          refine spec_l05Hear.gen (fun W => spec_l05Hear.HS w W g5 a0_0 a0_1 a0_2 a0_3 A0_4 c0_4 l0_4 a1_0 a1_1 a1_2 a1_3 a1_4 a0_0 p_ b_ n_ A_ c_ l_ fr_) (S7.out.drewN _) ?_
          clear p0 x0 p1 x1 p2 x2 p3 x3 p4 x4
          clear q0 fz0 q1 fz1 q2 fz2 q3 fz3 q4 fz4 q5 fz5 q6 fz6 q7 fz7
          clear S7 hcl
          intro R h_
          have SR := Aside0.mk h_
          clear h_
          have p0 := (blk_cell SR.out.bp 0).trans rfl
          have p1 := (blk_cell SR.out.bp 1).trans rfl
          have p2 := (blk_cell SR.out.bp 2).trans rfl
          have p3 := (blk_cell SR.out.bp 3).trans rfl
          have p4 := (blk_cell SR.out.bp 4).trans rfl
          have x0 := (blk_cell SR.out.bx 0).trans rfl
          have x1 := (blk_cell SR.out.bx 1).trans rfl
          have x2 := (blk_cell SR.out.bx 2).trans rfl
          have x3 := (blk_cell SR.out.bx 3).trans rfl
          have x4 := (blk_cell SR.out.bx 4).trans rfl
          have q0 := (blk_cell SR.out.b5 0).trans rfl
          have q1 := (blk_cell SR.out.b5 1).trans rfl
          have q2 := (blk_cell SR.out.b5 2).trans rfl
          have q3 := (blk_cell SR.out.b5 3).trans rfl
          have q4 := (blk_cell SR.out.b5 4).trans rfl
          have q5 := (blk_cell SR.out.b5 5).trans rfl
          have q6 := (blk_cell SR.out.b5 6).trans rfl
          have q7 := (blk_cell SR.out.b5 7).trans rfl
          have fz0 := blk_frozen SR.out.b5 0
          have fz1 := blk_frozen SR.out.b5 1
          have fz2 := blk_frozen SR.out.b5 2
          have fz3 := blk_frozen SR.out.b5 3
          have fz4 := blk_frozen SR.out.b5 4
          have fz5 := blk_frozen SR.out.b5 5
          have fz6 := blk_frozen SR.out.b5 6
          have fz7 := blk_frozen SR.out.b5 7
          by_cases cn : a1_2 = wrap64 (n_ + 1)
          · have h := H.out
            rw [if_pos cn] at h
            have H := Aside0.mk h
            clear h
            have d0cn : (a1_2 != wrap64 (n_ + 1)) = false := bne_eq_false_iff_eq.mpr cn
            have d1cn : (a1_2 == wrap64 (n_ + 1)) = true := beq_iff_eq.mpr cn
            have d2cn : (a1_2 == IntKind.i64.wrap (n_ + 1)) = true := by rw [i64_w]; exact d1cn
            clear cn
            go_upto_region 13 with (fail)
            go_quiet (fail)
            go_upto_region 14 with (fail)
            refine spec_l05Hear.gen (fun W => spec_l05Hear.HS w W g5 a0_0 a0_1 a0_2 a0_3 A0_4 c0_4 l0_4 a1_0 a1_1 a1_2 a1_3 a1_4 a0_0 p_ b_ n_ A_ c_ l_ fr_) (SR.out.drewN _) ?_
            clear p0 x0 p1 x1 p2 x2 p3 x3 p4 x4
            clear q0 fz0 q1 fz1 q2 fz2 q3 fz3 q4 fz4 q5 fz5 q6 fz6 q7 fz7
            clear SR
            intro X h_
            have SX := Aside0.mk h_
            clear h_
            have h := H.out
            simp only [Option.some.injEq, Prod.mk.injEq] at h
            obtain ⟨rfl, rfl, rfl, rfl, rfl, rfl, rfl, rfl⟩ := h
            clear H
            have p0 := (blk_cell SX.out.bp 0).trans rfl
            have p1 := (blk_cell SX.out.bp 1).trans rfl
            have p2 := (blk_cell SX.out.bp 2).trans rfl
            have p3 := (blk_cell SX.out.bp 3).trans rfl
            have p4 := (blk_cell SX.out.bp 4).trans rfl
            have x0 := (blk_cell SX.out.bx 0).trans rfl
            have x1 := (blk_cell SX.out.bx 1).trans rfl
            have x2 := (blk_cell SX.out.bx 2).trans rfl
            have x3 := (blk_cell SX.out.bx 3).trans rfl
            have x4 := (blk_cell SX.out.bx 4).trans rfl
            have q0 := (blk_cell SX.out.b5 0).trans rfl
            have q1 := (blk_cell SX.out.b5 1).trans rfl
            have q2 := (blk_cell SX.out.b5 2).trans rfl
            have q3 := (blk_cell SX.out.b5 3).trans rfl
            have q4 := (blk_cell SX.out.b5 4).trans rfl
            have q5 := (blk_cell SX.out.b5 5).trans rfl
            have q6 := (blk_cell SX.out.b5 6).trans rfl
            have q7 := (blk_cell SX.out.b5 7).trans rfl
            have fz0 := blk_frozen SX.out.b5 0
            have fz1 := blk_frozen SX.out.b5 1
            have fz2 := blk_frozen SX.out.b5 2
            have fz3 := blk_frozen SX.out.b5 3
            have fz4 := blk_frozen SX.out.b5 4
            have fz5 := blk_frozen SX.out.b5 5
            have fz6 := blk_frozen SX.out.b5 6
            have fz7 := blk_frozen SX.out.b5 7
            go_upto_region 15 with (fail)
            refine spec_l05Hear.gen (fun W => spec_l05Hear.HS w W g5 a0_0 a0_1 a0_2 a0_3 A0_4 c0_4 l0_4 a1_0 a1_1 a1_2 a1_3 a1_4 a0_0 p_ b_ a1_2 A_ c_ l_ fr_) (SX.out.sn a1_2) ?_
            clear p0 x0 p1 x1 p2 x2 p3 x3 p4 x4
            clear q0 fz0 q1 fz1 q2 fz2 q3 fz3 q4 fz4 q5 fz5 q6 fz6 q7 fz7
            intro V h_
            have SV := Aside0.mk h_
            clear h_ SX
            have x4 := (blk_cell SV.out.bx 4).trans rfl
            have q5 := (blk_cell SV.out.b5 5).trans rfl
            have fz5 := blk_frozen SV.out.b5 5
            have q5a := (blk_cell (blk_alloc SV.out.b5 (.cells #[.string a1_4] 9)) 5).trans rfl
            have fz5a := blk_frozen (blk_alloc SV.out.b5 (.cells #[.string a1_4] 9)) 5
            go_upto_region 16 with (fail)
            refine spec_l05Hear.gen (fun W => ∃ gt, W.heap[w.heap.size + 1 + 1]? = some (.cells #[.int .i64 0, .int .i64 0, .int .i64 0, .int .i64 0, .slice none 0 0, .slice none 0 0, .bool false, .int .i64 0] 26 (0, 0)) ∧ W.heap[g5]? = some (.cells #[.int .i64 a0_0, .int .i64 p_, .int .i64 b_, .int .i64 a1_2, .slice A_ l_.length c_, .slice (some ⟨gt, 0, none⟩) 1 1, .bool fr_, .int .i64 0] 26 (0, 0)) ∧ Kd.R Kd.string 9 W w.heap.size (fun k_ => some k_ ≠ (Value.slice (some ⟨gt, 0, none⟩) 1 1).ownBlock) (.slice A_ l_.length c_) l_ ∧ Kd.R Kd.string 9 W w.heap.size (fun k_ => some k_ ≠ (Value.slice A_ l_.length c_).ownBlock) (.slice (some ⟨gt, 0, none⟩) 1 1) [a1_4] ∧ Below w.heap.size w W) ?_ ?_
            · first
              | exact ⟨V.heap.size, spec_l05Hear.texts SV.out⟩
              | exact ⟨V.heap.size, spec_l05Hear.texts2 SV.out⟩
            clear x4 q5 fz5 q5a fz5a
            rintro U ⟨gt, bo, b5, h4, h5, bl⟩
            obtain ⟨o0, o1, o2, o3, o4, o5, o6, o7, f0, f1, f2, f3, f4, f5, f6, f7⟩ := spec_l05Hear.ofacts bo
            have q0 := (blk_cell b5 0).trans rfl
            have q1 := (blk_cell b5 1).trans rfl
            have q2 := (blk_cell b5 2).trans rfl
            have q3 := (blk_cell b5 3).trans rfl
            have q4 := (blk_cell b5 4).trans rfl
            have q5 := (blk_cell b5 5).trans rfl
            have q6 := (blk_cell b5 6).trans rfl
            have q7 := (blk_cell b5 7).trans rfl
            have BO := Aside0.mk bo
            have H4 := Aside0.mk h4
            have H5 := Aside0.mk h5
            have BL := Aside0.mk bl
            clear bo b5 h4 h5 bl SV
            go_wp2_with fail
            refine bodyPost_ret (results_cell_row rfl _ _ (w.heap.size + 1 + 1) 26 _ (0, 0) _ rfl (spec_l05Hear.fin BO.out _ _ _ _ _ _ _ _) Try.underlying26 rfl (by kernel_rfl)) rfl ⟨_, _, rfl, spec_l05Hear.row8 BO.out H4.out _ _ _ _ _ _ _ _, spec_l05Hear.row8 BO.out H5.out _ _ _ _ _ _ _ _, spec_l05Hear.set8 (by omega) BL.out _ _ _ _ _ _ _ _⟩
          · have h := H.out
            rw [if_neg cn] at h
            have H := Aside0.mk h
            clear h
            have d0cn : (a1_2 != wrap64 (n_ + 1)) = true := bne_iff_ne.mpr cn
            have d1cn : (a1_2 == wrap64 (n_ + 1)) = false := beq_eq_false_iff_ne.mpr cn
            have d2cn : (a1_2 == IntKind.i64.wrap (n_ + 1)) = false := by rw [i64_w]; exact d1cn
            clear cn
            go_upto_region 13 with (fail)
            go_quiet (fail)
            go_upto_region 16 with (fail)
            refine spec_l05Hear.gen (fun W => spec_l05Hear.HS w W g5 a0_0 a0_1 a0_2 a0_3 A0_4 c0_4 l0_4 a1_0 a1_1 a1_2 a1_3 a1_4 a0_0 p_ b_ n_ A_ c_ l_ fr_) (SR.out.drewN _) ?_
            clear p0 x0 p1 x1 p2 x2 p3 x3 p4 x4
            clear q0 fz0 q1 fz1 q2 fz2 q3 fz3 q4 fz4 q5 fz5 q6 fz6 q7 fz7
            clear SR
            intro X h_
            have SX := Aside0.mk h_
            clear h_
            have h := H.out
            simp only [Option.some.injEq, Prod.mk.injEq] at h
            obtain ⟨rfl, rfl, rfl, rfl, rfl, rfl, rfl, rfl⟩ := h
            clear H
            obtain ⟨o0, o1, o2, o3, o4, o5, o6, o7, f0, f1, f2, f3, f4, f5, f6, f7⟩ := spec_l05Hear.ofacts SX.out.bo
            have q0 := (blk_cell SX.out.b5 0).trans rfl
            have q1 := (blk_cell SX.out.b5 1).trans rfl
            have q2 := (blk_cell SX.out.b5 2).trans rfl
            have q3 := (blk_cell SX.out.b5 3).trans rfl
            have q4 := (blk_cell SX.out.b5 4).trans rfl
            have q5 := (blk_cell SX.out.b5 5).trans rfl
            have q6 := (blk_cell SX.out.b5 6).trans rfl
            have q7 := (blk_cell SX.out.b5 7).trans rfl
            have fz0 := blk_frozen SX.out.b5 0
            have fz1 := blk_frozen SX.out.b5 1
            have fz2 := blk_frozen SX.out.b5 2
            have fz3 := blk_frozen SX.out.b5 3
            have fz4 := blk_frozen SX.out.b5 4
            have fz5 := blk_frozen SX.out.b5 5
            have fz6 := blk_frozen SX.out.b5 6
            have fz7 := blk_frozen SX.out.b5 7
            go_wp2_with fail
            refine bodyPost_ret (results_cell_row rfl _ _ (w.heap.size + 1 + 1) 26 _ (0, 0) _ rfl (spec_l05Hear.fin SX.out.bo _ _ _ _ _ _ _ _) Try.underlying26 rfl (by kernel_rfl)) rfl ⟨_, _, rfl, spec_l05Hear.row8 SX.out.bo (Kd.R_mono SX.out.ho (fun k hk => by simp [Value.ownBlock])) _ _ _ _ _ _ _ _, Kd.R_nil _ _ _ _ _, spec_l05Hear.set8 (by omega) SX.out.bl _ _ _ _ _ _ _ _⟩
      · have h := H.out
        rw [if_neg ce] at h
        have H := Aside0.mk h
        clear h
        have d0ce : (a1_1 != a0_0) = true := bne_iff_ne.mpr ce
        have d1ce : (a1_1 == a0_0) = false := beq_eq_false_iff_ne.mpr ce
        clear ce
        clear p0 x0 p1 x1 p2 x2 p3 x3 p4 x4
        clear q0 fz0 q1 fz1 q2 fz2 q3 fz3 q4 fz4 q5 fz5 q6 fz6 q7 fz7
        have p0 := (blk_cell S7.out.bp 0).trans rfl
        have p1 := (blk_cell S7.out.bp 1).trans rfl
        have p2 := (blk_cell S7.out.bp 2).trans rfl
        have p3 := (blk_cell S7.out.bp 3).trans rfl
        have p4 := (blk_cell S7.out.bp 4).trans rfl
        have x0 := (blk_cell S7.out.bx 0).trans rfl
        have x1 := (blk_cell S7.out.bx 1).trans rfl
        have x2 := (blk_cell S7.out.bx 2).trans rfl
        have x3 := (blk_cell S7.out.bx 3).trans rfl
        have x4 := (blk_cell S7.out.bx 4).trans rfl
        have h := H.out
        simp only [Option.some.injEq, Prod.mk.injEq] at h
        obtain ⟨rfl, rfl, rfl, rfl, rfl, rfl, rfl, rfl⟩ := h
        clear H
        obtain ⟨o0, o1, o2, o3, o4, o5, o6, o7, f0, f1, f2, f3, f4, f5, f6, f7⟩ := spec_l05Hear.ofacts S7.out.bo
        have q0 := (blk_cell S7.out.b5 0).trans rfl
        have q1 := (blk_cell S7.out.b5 1).trans rfl
        have q2 := (blk_cell S7.out.b5 2).trans rfl
        have q3 := (blk_cell S7.out.b5 3).trans rfl
        have q4 := (blk_cell S7.out.b5 4).trans rfl
        have q5 := (blk_cell S7.out.b5 5).trans rfl
        have q6 := (blk_cell S7.out.b5 6).trans rfl
        have q7 := (blk_cell S7.out.b5 7).trans rfl
        have fz0 := blk_frozen S7.out.b5 0
        have fz1 := blk_frozen S7.out.b5 1
        have fz2 := blk_frozen S7.out.b5 2
        have fz3 := blk_frozen S7.out.b5 3
        have fz4 := blk_frozen S7.out.b5 4
        have fz5 := blk_frozen S7.out.b5 5
        have fz6 := blk_frozen S7.out.b5 6
        have fz7 := blk_frozen S7.out.b5 7
        go_wp2_with fail
        refine bodyPost_ret (results_cell_row rfl _ _ (w.heap.size + 1 + 1) 26 _ (0, 0) _ rfl (spec_l05Hear.fin S7.out.bo _ _ _ _ _ _ _ _) Try.underlying26 rfl (by kernel_rfl)) rfl ⟨_, _, rfl, spec_l05Hear.row8 S7.out.bo (Kd.R_mono S7.out.ho (fun k hk => by simp [Value.ownBlock])) _ _ _ _ _ _ _ _, Kd.R_nil _ _ _ _ _, spec_l05Hear.set8 (by omega) S7.out.bl _ _ _ _ _ _ _ _⟩


end Go.Proofs.Ytkbhdiambabnnaa.PFnExactPipeHear
