/- The plain law of FnNote: for all arguments that fit the guards its printed function answers true. -/
import Derived.Test.YtbanbmkfdkbfiaaPFnNotex
set_option linter.unusedVariables false
set_option linter.unusedSimpArgs false
namespace Go.Proofs.Ytbanbmkfdkbfiaa.Pure
open Go.RowKit Go.Proofs.Ytbanbmkfdkbfiaa.PFnNote Go.Proofs.YtbanbmkfdkbfiaaW.PrintWords Go.Proofs.YtbanbmkfdkbfiaaW.PrintLast Go.Proofs.YtbanbmkfdkbfiaaW.PrintMore

theorem bits_xor_nat (k : IntKind) (a b : Nat) : Go.bits .xor k a b = k.wrap (((a % 2 ^ k.bits) ^^^ (b % 2 ^ k.bits) : Nat) : Int) := by
 simp only [Go.bits, BitVec.ofInt_natCast, BitVec.toNat_xor, BitVec.toNat_ofNat]
theorem bits_or_nat (k : IntKind) (a b : Nat) : Go.bits .or k a b = k.wrap (((a % 2 ^ k.bits) ||| (b % 2 ^ k.bits) : Nat) : Int) := by
 simp only [Go.bits, BitVec.ofInt_natCast, BitVec.toNat_or, BitVec.toNat_ofNat]
theorem bits_and_nat (k : IntKind) (a b : Nat) : Go.bits .and k a b = k.wrap (((a % 2 ^ k.bits) &&& (b % 2 ^ k.bits) : Nat) : Int) := by
 simp only [Go.bits, BitVec.ofInt_natCast, BitVec.toNat_and, BitVec.toNat_ofNat]
theorem wrap_u64 (n : Int) : IntKind.u64.wrap n = n % 18446744073709551616 := by simp [IntKind.wrap, IntKind.bits, IntKind.signed]
theorem xor_ones (x : Nat) (h : x < 18446744073709551616) : x ^^^ 18446744073709551615 = 18446744073709551615 - x := by
 have e := BitVec.toNat_not (x := BitVec.ofNat 64 x)
 rw [← BitVec.xor_allOnes, BitVec.toNat_xor, BitVec.toNat_allOnes, BitVec.toNat_ofNat] at e
 rw [Nat.mod_eq_of_lt (by simpa using h)] at e
 simpa using e
theorem wrap64_id {x : Int} (h0 : -9223372036854775808 ≤ x) (h1 : x ≤ 9223372036854775807) : wrap64 x = x := by unfold wrap64; omega
theorem u64_id {x : Int} (h0 : 0 ≤ x) (h1 : x < 18446744073709551616) : IntKind.u64.wrap x = x := by rw [wrap_u64]; omega
theorem tmod_nat (a b : Nat) : Int.tmod (a : Int) (b : Int) = ((a % b : Nat) : Int) := by rw [Int.tmod_eq_emod_of_nonneg (by omega)]; simp
theorem tdiv_nat (a b : Nat) : Int.tdiv (a : Int) (b : Int) = ((a / b : Nat) : Int) := by rw [Int.tdiv_eq_ediv_of_nonneg (by omega)]; simp

theorem n_ok {l : List Int} {i m sz most : Int} (h0 : 0 ≤ i) (h1 : i ≤ (l.length : Int)) (hl : (l.length : Int) ≤ 1048576) (hm : 2 ≤ most ∧ most ≤ 1099511627776) :
  ∃ r i' m', spec_l01Src_n.f l i m sz most = some (r, i', m', sz) ∧ 0 ≤ r ∧ r < most ∧ 0 ≤ i' ∧ i' ≤ (l.length : Int) := by
 have hw : IntKind.u64.wrap most = most := u64_id (by omega) (by omega)
 have ho : ∀ v mm : Int, 0 ≤ spec_l01Src_n.out v mm most ∧ spec_l01Src_n.out v mm most < most := by
  intro v mm
  unfold spec_l01Src_n.out
  rw [hw, wrap_u64]
  generalize (v + mm / 1048576) = x
  have hx : 0 ≤ x % 18446744073709551616 := by omega
  rw [Int.tmod_eq_emod_of_nonneg hx]
  have a1 := Int.emod_nonneg (x % 18446744073709551616) (show most ≠ 0 by omega)
  have a2 := Int.emod_lt_of_pos (x % 18446744073709551616) (show 0 < most by omega)
  rw [wrap64_id (by omega) (by omega)]
  exact ⟨a1, a2⟩
 unfold spec_l01Src_n.f
 rw [if_neg (by omega), hw, if_neg (by omega)]
 by_cases h : i < (l.length : Int)
 ·rw [if_pos h, if_pos h0, wrap64_id (by omega) (by omega)]
  have := ho (IntKind.u64.wrap (rd l i)) (spec_l01Src_n.mix m)
  exact ⟨_, _, _, rfl, this.1, this.2, by omega, by omega⟩
 ·rw [if_neg h]
  have := ho 0 (spec_l01Src_n.mix m)
  exact ⟨_, _, _, rfl, this.1, this.2, by omega, by omega⟩
theorem src_l0 (l : List Int) : ∀ (d k : Nat) (x m : Int), 0 ≤ x → x + d = 64 → d < k → ∃ m' z, spec_l01Source.l0 k l x l 0 m 0 = some (l, 0, m', z) := by
 intro d
 induction d with
 | zero =>
  intro k x m h0 h1 hk
  obtain ⟨k, rfl⟩ : ∃ q, k = q + 1 := ⟨k - 1, by omega⟩
  simp only [spec_l01Source.l0]
  rw [if_neg (show ¬ x < 64 by omega)]
  split <;> split <;> exact ⟨_, _, rfl⟩
 | succ d ih =>
  intro k x m h0 h1 hk
  obtain ⟨k, rfl⟩ : ∃ q, k = q + 1 := ⟨k - 1, by omega⟩
  simp only [spec_l01Source.l0]
  rw [if_pos (show x < 64 by omega), if_pos h0, wrap64_id (x := x + 1) (by omega) (by omega)]
  by_cases h : x < (l.length : Int)
  ·rw [if_pos h]; exact ih k _ _ (by omega) (by omega) (by omega)
  ·rw [if_neg h]; split <;> exact ⟨_, _, rfl⟩
theorem source_ok (l : List Int) (k : Nat) (hk : 65 ≤ k) : ∃ m z, spec_l01Source.f k l = some (l, 0, m, z) := by
 unfold spec_l01Source.f
 exact src_l0 l 64 k 0 _ (by omega) (by omega) (by omega)

theorem one_ok {l : List Int} {i m sz most : Int} (h0 : 0 ≤ i) (h1 : i ≤ (l.length : Int)) (hl : (l.length : Int) ≤ 1048576) (hm : 2 ≤ most ∧ most ≤ 1099511627776) :
  ∃ b i' m', spec_l01Src_one.f l i m sz most = some (b, i', m', sz) ∧ 0 ≤ i' ∧ i' ≤ (l.length : Int) := by
 obtain ⟨r, i', m', e, _, _, a, b⟩ := n_ok (m := m) (sz := sz) h0 h1 hl hm
 unfold spec_l01Src_one.f
 rw [e]
 exact ⟨_, _, _, rfl, a, b⟩

theorem vniof_ok {l : List Int} {i m sz : Int} (h0 : 0 ≤ i) (h1 : i ≤ (l.length : Int)) (hl : (l.length : Int) ≤ 1048576) :
  ∃ v i' m', spec_l01Src_l02VniOf.f l i m sz = some (v, i', m', sz) ∧ 0 ≤ i' ∧ i' ≤ (l.length : Int) := by
 obtain ⟨b, i1, m1, e1, a1, a2⟩ := one_ok (m := m) (sz := sz) (most := 15) h0 h1 hl (by omega)
 unfold spec_l01Src_l02VniOf.f
 rw [e1, Option.bind_some]
 cases b with
 | true =>
  obtain ⟨r, i2, m2, e2, r0, r1, b1, b2⟩ := n_ok (m := m1) (sz := sz) (most := 4) a1 a2 hl (by omega)
  rw [if_pos rfl, Option.bind_some]
  simp only [e2, Option.bind_some]
  rw [if_pos r0, if_pos (by simpa using r1)]
  exact ⟨_, _, _, rfl, b1, b2⟩
 | false =>
  obtain ⟨r, i2, m2, e2, r0, r1, b1, b2⟩ := n_ok (m := m1) (sz := sz) (most := 2) a1 a2 hl (by omega)
  rw [if_neg (by simp)]
  simp only [e2, Option.bind_some]
  exact ⟨_, _, _, rfl, b1, b2⟩
theorem macof_ok {l : List Int} {i m sz : Int} (h0 : 0 ≤ i) (h1 : i ≤ (l.length : Int)) (hl : (l.length : Int) ≤ 1048576) :
  ∃ v i' m', spec_l01Src_l02MacOf.f l i m sz = some (v, i', m', sz) ∧ 0 ≤ i' ∧ i' ≤ (l.length : Int) := by
 obtain ⟨b, i1, m1, e1, a1, a2⟩ := one_ok (m := m) (sz := sz) (most := 12) h0 h1 hl (by omega)
 unfold spec_l01Src_l02MacOf.f
 rw [e1, Option.bind_some]
 cases b with
 | true =>
  obtain ⟨r, i2, m2, e2, r0, r1, b1, b2⟩ := n_ok (m := m1) (sz := sz) (most := 6) a1 a2 hl (by omega)
  rw [if_pos rfl, Option.bind_some]
  simp only [e2, Option.bind_some]
  rw [if_pos r0, if_pos (by simpa using r1)]
  exact ⟨_, _, _, rfl, b1, b2⟩
 | false =>
  obtain ⟨r, i2, m2, e2, r0, r1, b1, b2⟩ := n_ok (m := m1) (sz := sz) (most := 3) a1 a2 hl (by omega)
  rw [if_neg (by simp)]
  simp only [e2, Option.bind_some]
  exact ⟨_, _, _, rfl, b1, b2⟩
theorem ipof_ok {l : List Int} {i m sz : Int} (h0 : 0 ≤ i) (h1 : i ≤ (l.length : Int)) (hl : (l.length : Int) ≤ 1048576) :
  ∃ v i' m', spec_l01Src_l02IpOf.f l i m sz = some (v, i', m', sz) ∧ 0 ≤ i' ∧ i' ≤ (l.length : Int) := by
 obtain ⟨b, i1, m1, e1, a1, a2⟩ := one_ok (m := m) (sz := sz) (most := 15) h0 h1 hl (by omega)
 unfold spec_l01Src_l02IpOf.f
 rw [e1, Option.bind_some]
 cases b with
 | true =>
  obtain ⟨r, i2, m2, e2, r0, r1, b1, b2⟩ := n_ok (m := m1) (sz := sz) (most := 4) a1 a2 hl (by omega)
  rw [if_pos rfl, Option.bind_some]
  simp only [e2, Option.bind_some]
  rw [if_pos r0, if_pos (by simpa using r1)]
  exact ⟨_, _, _, rfl, b1, b2⟩
 | false =>
  obtain ⟨r, i2, m2, e2, r0, r1, b1, b2⟩ := n_ok (m := m1) (sz := sz) (most := 3) a1 a2 hl (by omega)
  rw [if_neg (by simp)]
  simp only [e2, Option.bind_some]
  exact ⟨_, _, _, rfl, b1, b2⟩
theorem route_j0 {l : List Int} {i m sz : Int} (h0 : 0 ≤ i) (h1 : i ≤ (l.length : Int)) (hl : (l.length : Int) ≤ 1048576) (k : Nat) (a b c d e f : Int) (g : Bool) :
  ∃ a' b' c' d' e' f' g' i' m', spec_l01Src_l03Route.j0 (k + 1) l i m sz a b c d e f g = some (a', b', c', d', e', f', g', i', m', sz) ∧ 0 ≤ i' ∧ i' ≤ (l.length : Int) := by
 obtain ⟨q, i1, m1, e1, a1, a2⟩ := one_ok (m := m) (sz := sz) (most := 15) h0 h1 hl (by omega)
 rw [spec_l01Src_l03Route.j0, e1, Option.bind_some]
 cases q with
 | false => rw [if_neg (by simp)]; exact ⟨_, _, _, _, _, _, _, _, _, rfl, a1, a2⟩
 | true =>
  rw [if_pos rfl]
  obtain ⟨r, i2, m2, e2, r0, r1, b1, b2⟩ := n_ok (m := m1) (sz := sz) (most := 6) a1 a2 hl (by omega)
  simp only [e2, Option.bind_some]
  by_cases c0 : r = 0
  ·rw [if_pos c0]
   obtain ⟨r, i3, m3, e3, _, _, c1, c2⟩ := n_ok (m := m2) (sz := sz) (most := 4) b1 b2 hl (by omega)
   simp only [e3, Option.bind_some]
   exact ⟨_, _, _, _, _, _, _, _, _, rfl, c1, c2⟩
  rw [if_neg c0]
  by_cases c1 : r = 1
  ·rw [if_pos c1]
   obtain ⟨r, i3, m3, e3, c1, c2⟩ := vniof_ok (m := m2) (sz := sz) b1 b2 hl
   simp only [e3, Option.bind_some]
   exact ⟨_, _, _, _, _, _, _, _, _, rfl, c1, c2⟩
  rw [if_neg c1]
  by_cases c2 : r = 2
  ·rw [if_pos c2]
   obtain ⟨r, i3, m3, e3, c1, c2⟩ := macof_ok (m := m2) (sz := sz) b1 b2 hl
   simp only [e3, Option.bind_some]
   exact ⟨_, _, _, _, _, _, _, _, _, rfl, c1, c2⟩
  rw [if_neg c2]
  by_cases c3 : r = 3
  ·rw [if_pos c3]
   obtain ⟨r, i3, m3, e3, q0, q1, c1, c2⟩ := n_ok (m := m2) (sz := sz) (most := 3) b1 b2 hl (by omega)
   simp only [e3, Option.bind_some]
   rw [if_pos q0, if_pos (by simpa using q1)]
   exact ⟨_, _, _, _, _, _, _, _, _, rfl, c1, c2⟩
  rw [if_neg c3]
  by_cases c4 : r = 4
  ·rw [if_pos c4]
   obtain ⟨r, i3, m3, e3, q0, q1, c1, c2⟩ := n_ok (m := m2) (sz := sz) (most := 3) b1 b2 hl (by omega)
   simp only [e3, Option.bind_some]
   rw [if_pos q0, if_pos (by simpa using q1)]
   exact ⟨_, _, _, _, _, _, _, _, _, rfl, c1, c2⟩
  rw [if_neg c4]
  obtain ⟨r, i3, m3, e3, c1, c2⟩ := ipof_ok (m := m2) (sz := sz) b1 b2 hl
  simp only [e3, Option.bind_some]
  exact ⟨_, _, _, _, _, _, _, _, _, rfl, c1, c2⟩
theorem route_ok {l : List Int} {i m sz : Int} (h0 : 0 ≤ i) (h1 : i ≤ (l.length : Int)) (hl : (l.length : Int) ≤ 1048576) (k : Nat) (hk : 1 ≤ k) :
  ∃ a b c d e f g i' m', spec_l01Src_l03Route.f k l i m sz = some (a, b, c, d, e, f, g, i', m', sz) ∧ 0 ≤ i' ∧ i' ≤ (l.length : Int) := by
 obtain ⟨k, rfl⟩ : ∃ q, k = q + 1 := ⟨k - 1, by omega⟩
 obtain ⟨r1, i1, m1, e1, _, _, a1, a2⟩ := n_ok (m := m) (sz := sz) (most := 2) h0 h1 hl (by omega)
 obtain ⟨r2, i2, m2, e2, _, _, b1, b2⟩ := n_ok (m := m1) (sz := sz) (most := 3) a1 a2 hl (by omega)
 obtain ⟨r3, i3, m3, e3, _, _, c1, c2⟩ := n_ok (m := m2) (sz := sz) (most := 3) b1 b2 hl (by omega)
 obtain ⟨r4, i4, m4, e4, _, _, d1, d2⟩ := n_ok (m := m3) (sz := sz) (most := 4) c1 c2 hl (by omega)
 obtain ⟨r5, i5, m5, e5, _, _, f1, f2⟩ := n_ok (m := m4) (sz := sz) (most := 4) d1 d2 hl (by omega)
 obtain ⟨r6, i6, m6, e6, g1, g2⟩ := one_ok (m := m5) (sz := sz) (most := 8) f1 f2 hl (by omega)
 obtain ⟨r7, i7, m7, e7, x1, x2⟩ := one_ok (m := m6) (sz := sz) (most := 4) g1 g2 hl (by omega)
 unfold spec_l01Src_l03Route.f
 simp only [e1, e2, e3, e4, e5, e6, e7, Option.bind_some]
 cases r7 with
 | true =>
  rw [if_pos rfl]
  obtain ⟨r8, i8, m8, e8, _, _, y1, y2⟩ := n_ok (m := m7) (sz := sz) (most := 2) x1 x2 hl (by omega)
  obtain ⟨r9, i9, m9, e9, _, _, z1, z2⟩ := n_ok (m := m8) (sz := sz) (most := 4) y1 y2 hl (by omega)
  simp only [e8, e9, Option.bind_some]
  exact route_j0 z1 z2 hl k _ _ _ _ _ _ _
 | false =>
  rw [if_neg (by simp)]
  exact route_j0 x1 x2 hl k _ _ _ _ _ _ _
theorem nle_ok {l : List Int} {i m sz most : Int} (h0 : 0 ≤ i) (h1 : i ≤ (l.length : Int)) (hl : (l.length : Int) ≤ 1048576) (hm : 1 ≤ most ∧ most ≤ 1099511627776) :
  ∃ r i' m', spec_l01Src_n.f l i m sz most = some (r, i', m', sz) ∧ 0 ≤ r ∧ r < most ∧ 0 ≤ i' ∧ i' ≤ (l.length : Int) := by
 by_cases h : most ≤ 1
 ·refine ⟨0, i, m, ?_, by omega, by omega, h0, h1⟩
  unfold spec_l01Src_n.f
  rw [if_pos h]
 ·exact n_ok h0 h1 hl (by omega)

theorem note_j0 {l : List Int} {i m sz : Int} (h0 : 0 ≤ i) (h1 : i ≤ (l.length : Int)) (hl : (l.length : Int) ≤ 1048576) (k : Nat) (n a b c d e f : Int) (g : Bool) :
  ∃ n' a' b' c' d' e' f' g' i' m', spec_l01Src_l04Note.j0 (k + 1) l i m sz n a b c d e f g = some (n', a', b', c', d', e', f', g', i', m', sz) ∧ 0 ≤ i' ∧ i' ≤ (l.length : Int) := by
 obtain ⟨q, i1, m1, e1, a1, a2⟩ := one_ok (m := m) (sz := sz) (most := 12) h0 h1 hl (by omega)
 rw [spec_l01Src_l04Note.j0, e1, Option.bind_some]
 cases q with
 | false => rw [if_neg (by simp)]; exact ⟨_, _, _, _, _, _, _, _, _, _, rfl, a1, a2⟩
 | true =>
  obtain ⟨r, i2, m2, e2, _, _, b1, b2⟩ := n_ok (m := m1) (sz := sz) (most := 5) a1 a2 hl (by omega)
  rw [if_pos rfl]
  simp only [e2, Option.bind_some]
  exact ⟨_, _, _, _, _, _, _, _, _, _, rfl, b1, b2⟩
theorem note_ok {l : List Int} {i m sz : Int} (h0 : 0 ≤ i) (h1 : i ≤ (l.length : Int)) (hl : (l.length : Int) ≤ 1048576) (k : Nat) (hk : 1 ≤ k) :
  ∃ n a b c d e f g i' m', spec_l01Src_l04Note.f k l i m sz = some (n, a, b, c, d, e, f, g, i', m', sz) ∧ 0 ≤ i' ∧ i' ≤ (l.length : Int) := by
 obtain ⟨r, i1, m1, e1, _, _, a1, a2⟩ := n_ok (m := m) (sz := sz) (most := 3) h0 h1 hl (by omega)
 obtain ⟨q1, q2, q3, q4, q5, q6, q7, i2, m2, e2, b1, b2⟩ := route_ok (m := m1) (sz := sz) a1 a2 hl k hk
 obtain ⟨k, rfl⟩ : ∃ q, k = q + 1 := ⟨k - 1, by omega⟩
 unfold spec_l01Src_l04Note.f
 simp only [e1, Option.bind_some]
 by_cases c1 : wrap64 (1 + r) = 1
 ·rw [if_pos c1]
  simp only [e2, Option.bind_some]
  exact note_j0 b1 b2 hl k _ _ _ _ _ _ _ _
 rw [if_neg c1]
 by_cases c2 : wrap64 (1 + r) = 2
 ·rw [if_pos c2]
  simp only [e2, Option.bind_some]
  unfold spec_KeyOf.f
  simp only [Option.bind_some]
  exact note_j0 b1 b2 hl k _ _ _ _ _ _ _ _
 rw [if_neg c2]
 exact note_j0 a1 a2 hl k _ _ _ _ _ _ _ _

def vi : Nat → Nat → List Int
 | 0, _ => []
 | f + 1, u => if u < 128 then [(u : Int)] else ((u % 128 + 128 : Nat) : Int) :: vi f (u / 128)
def zz (n : Int) : Nat := (if n < 0 then -2 * n - 1 else 2 * n).toNat
def encN (n : Int) : ByteArray := strOfNums (vi 10 (zz n))
theorem zz_lt {n : Int} (h : -9223372036854775808 ≤ n ∧ n ≤ 9223372036854775807) : zz n < 18446744073709551616 := by
 unfold zz; split <;> omega
theorem zz_cast (n : Int) : (zz n : Int) = if n < 0 then -2 * n - 1 else 2 * n := by
 unfold zz; split <;> omega
theorem pow128 : (128 : Nat) ^ 10 = 1180591620717411303424 := by decide

theorem vi_len : ∀ (f u : Nat), (vi f u).length ≤ f
 | 0, _ => by simp [vi]
 | f + 1, u => by
  rw [vi]; split
  ·simp
  ·have := vi_len f (u / 128); simp; omega
theorem str_size (xs : List Int) : (strOfNums xs).size = xs.length := by simp [strOfNums, ByteArray.size]
theorem encN_size (n : Int) : (encN n).size ≤ 10 := by
 unfold encN; rw [str_size]; exact vi_len _ _

theorem spoil_j0 {l : List Int} {i m sz : Int} (h0 : 0 ≤ i) (h1 : i ≤ (l.length : Int)) (hl : (l.length : Int) ≤ 1048576) (k : Nat) (t : ByteArray) (p : Int) (b : ByteArray) (q : Bool) (ht : t.size ≤ 1000000) (hb : b.size ≤ 10) (hp : 0 ≤ p ∧ p ≤ (t.size : Int)) (hq : q = false → p < (t.size : Int)) :
  ∃ r i' m', spec_l01Src_spoil.j0 (k + 1) t p b q l i m sz = some (r, i', m', sz) ∧ r.size ≤ t.size + 10 ∧ 0 ≤ i' ∧ i' ≤ (l.length : Int) := by
 rw [spec_l01Src_spoil.j0]
 have z1 : (t.extract 0 p.toNat).size = p.toNat := by rw [ByteArray.size_extract]; omega
 have z2 : (t.extract p.toNat t.size).size = t.size - p.toNat := by rw [ByteArray.size_extract]; omega
 cases q with
 | true =>
  rw [if_pos rfl, if_pos hp.1, if_pos hp.2, if_pos (by omega), if_pos (by omega)]
  exact ⟨_, _, _, rfl, by simp only [ByteArray.size_append]; omega, h0, h1⟩
 | false =>
  have hp2 := hq rfl
  have w : wrap64 (p + 1) = p + 1 := wrap64_id (by omega) (by omega)
  have z3 : (t.extract (p + 1).toNat t.size).size = t.size - (p + 1).toNat := by rw [ByteArray.size_extract]; omega
  rw [if_neg (by simp)]
  obtain ⟨c, i1, m1, e1, a1, a2⟩ := one_ok (m := m) (sz := sz) (most := 2) h0 h1 hl (by omega)
  rw [e1, Option.bind_some, w]
  cases c with
  | true =>
   rw [if_pos rfl, if_pos hp.1, if_pos hp.2, if_pos (by omega), if_pos (by omega), if_pos (by omega)]
   exact ⟨_, _, _, rfl, by simp only [ByteArray.size_append]; omega, a1, a2⟩
  | false =>
   rw [if_neg (by simp), if_pos hp.1, if_pos hp.2, if_pos (by omega), if_pos (by omega), if_pos (by omega), if_pos (by omega)]
   exact ⟨_, _, _, rfl, by simp only [ByteArray.size_append]; omega, a1, a2⟩
theorem spoil_ok {l : List Int} {i m sz : Int} (h0 : 0 ≤ i) (h1 : i ≤ (l.length : Int)) (hl : (l.length : Int) ≤ 1048576) (k : Nat) (hk : 1 ≤ k) (t : ByteArray) (ht : t.size ≤ 1000000) :
  ∃ r i' m', spec_l01Src_spoil.f k l i m sz t = some (r, i', m', sz) ∧ r.size ≤ t.size + 10 ∧ 0 ≤ i' ∧ i' ≤ (l.length : Int) := by
 obtain ⟨k, rfl⟩ : ∃ q, k = q + 1 := ⟨k - 1, by omega⟩
 have w : wrap64 ((t.size : Int) + 1) = (t.size : Int) + 1 := wrap64_id (by omega) (by omega)
 obtain ⟨r1, i1, m1, e1, p0, p1, a1, a2⟩ := nle_ok (m := m) (sz := sz) (most := (t.size : Int) + 1) h0 h1 hl (by omega)
 obtain ⟨r2, i2, m2, e2, q0, q1, b1, b2⟩ := n_ok (m := m1) (sz := sz) (most := 17) a1 a2 hl (by omega)
 unfold spec_l01Src_spoil.f
 rw [w]
 simp only [e1, e2, Option.bind_some]
 rw [if_pos q0, if_pos q1]
 by_cases c : r1 = (t.size : Int)
 ·rw [if_pos c]
  exact spoil_j0 b1 b2 hl k t r1 _ true ht (by rw [str_size]; simp) ⟨p0, by omega⟩ (by simp)
 ·rw [if_neg c]
  obtain ⟨q, i3, m3, e3, c1, c2⟩ := one_ok (m := m2) (sz := sz) (most := 3) b1 b2 hl (by omega)
  simp only [e3, Option.bind_some]
  exact spoil_j0 c1 c2 hl k t r1 _ q ht (by rw [str_size]; simp) ⟨p0, by omega⟩ (fun _ => by omega)

theorem s_is (a b c : Int) : spec_l02Is.f a b c = some (decide (b ≤ a ∧ a ≤ c)) := by
 unfold spec_l02Is.f; by_cases h : a ≥ b
 ·rw [if_pos h]; by_cases h2 : a ≤ c <;> simp [h, h2]
 ·rw [if_neg h]; congr 1; symm; apply decide_eq_false; omega

theorem i_in (a b c : Int) : impl_in.f a b c = some (decide (b ≤ a ∧ a ≤ c)) := by
 unfold impl_in.f; by_cases h : b ≤ a
 ·rw [if_pos h]; by_cases h2 : a ≤ c <;> simp [h, h2]
 ·rw [if_neg h]; congr 1; symm; apply decide_eq_false; omega


def grp (m : Int) : Bool := decide (0 ≤ m ∧ m ≤ 281474976710655) && (Go.bits .and .i64 (m / 1099511627776) 1 == 1)
theorem s_grp (m : Int) : spec_IsGroup.f m = some (grp m) := by
 unfold spec_IsGroup.f spec_l02Mac.f grp
 simp only [s_is, Option.bind_some]
 by_cases h : 0 ≤ m ∧ m ≤ 281474976710655 <;> simp [h]
theorem i_grp (m : Int) : impl_IsGroup.f m = some (grp m) := by
 unfold impl_IsGroup.f impl_isMac.f grp
 simp only [i_in, Option.bind_some]
 by_cases h : 0 ≤ m ∧ m ≤ 281474976710655 <;> simp [h]
def routeOk (k v m ip o s : Int) (st : Bool) : Bool :=
 decide (1 ≤ v ∧ v ≤ 16777215) && decide (1 ≤ o ∧ o ≤ 4) &&
  ((decide (k = 2) && (decide (0 ≤ m ∧ m ≤ 281474976710655) && (!grp m) && decide (0 ≤ ip ∧ ip ≤ 4294967295) && decide (0 ≤ s ∧ s ≤ 1000000))) ||
     (decide (k = 3) && (decide (m = 0) && decide (ip = 0) && decide (s = 0) && !st)))
theorem s_routeRight (n : Nat) (k v m ip o s : Int) (st : Bool) : spec_RouteRight.f (n + 1) k v m ip o s st = some (routeOk k v m ip o s st) := by
 unfold spec_RouteRight.f spec_l02Vni.f routeOk
 simp only [s_is, Option.bind_some, spec_RouteRight.j0, s_grp, spec_l02Mac.f, spec_l02Ip.f]
 by_cases h1 : 1 ≤ v ∧ v ≤ 16777215
 ·by_cases h2 : 1 ≤ o ∧ o ≤ 4
  ·by_cases hk : k = 2
   ·subst hk
    by_cases h3 : 0 ≤ m ∧ m ≤ 281474976710655
    ·cases hg : grp m
     ·by_cases h4 : 0 ≤ ip ∧ ip ≤ 4294967295 <;> simp [h1, h2, h3, h4]
     ·simp [h1, h2, h3]
    ·simp [h1, h2, h3]
   ·by_cases hk3 : k = 3
    ·subst hk3
     by_cases h3 : m = 0
     ·by_cases h4 : ip = 0
      ·by_cases h5 : s = 0 <;> simp [h1, h2, h3, h4, h5]
      ·simp [h1, h2, h3, h4]
     ·simp [h1, h2, h3]
    ·simp [h1, h2, hk, hk3]
  ·simp [h1, h2]
 ·simp [h1]
theorem i_routeRight (n : Nat) (k v m ip o s : Int) (st : Bool) : impl_RouteRight.f (n + 1) k v m ip o s st = some (routeOk k v m ip o s st) := by
 unfold impl_RouteRight.f impl_isVni.f impl_isHouse.f routeOk
 simp only [i_in, Option.bind_some, impl_RouteRight.j0, i_grp, impl_isGuest.f, impl_isMac.f, impl_isIp.f, impl_isTime.f]
 by_cases h1 : 1 ≤ v ∧ v ≤ 16777215
 ·by_cases h2 : 1 ≤ o ∧ o ≤ 4
  ·by_cases hk : k = 2
   ·subst hk
    by_cases h3 : 0 ≤ m ∧ m ≤ 281474976710655
    ·cases hg : grp m
     ·by_cases h4 : 0 ≤ ip ∧ ip ≤ 4294967295 <;> simp [h1, h2, h3, h4]
     ·simp [h1, h2, h3]
    ·simp [h1, h2, h3]
   ·by_cases hk3 : k = 3
    ·subst hk3
     by_cases h3 : m = 0
     ·by_cases h4 : ip = 0
      ·by_cases h5 : s = 0 <;> simp [h1, h2, h3, h4, h5]
      ·simp [h1, h2, h3, h4]
     ·simp [h1, h2, h3]
    ·simp [h1, h2, hk, hk3]
  ·simp [h1, h2]
 ·simp [h1]

def noteOk (n k v m ip o s : Int) (st : Bool) : Bool :=
 if n = 1 then routeOk k v m ip o s st
 else if n = 2 then routeOk k v m ip o s st && (decide (ip = 0) && (decide (s = 0) && !st))
 else decide (n = 3) && (decide (k = 0) && (decide (v = 0) && (decide (m = 0) && (decide (ip = 0) && (decide (o = 0) && (decide (s = 0) && !st))))))

def routeEnc (k v m ip o s : Int) (st : Bool) : ByteArray := ((((((encN k ++ encN v) ++ encN m) ++ encN ip) ++ encN o) ++ encN s) ++ encN (if st = true then 1 else 0))
def routeBytes (k v m ip o s : Int) (st : Bool) : ByteArray := if routeOk k v m ip o s st = true then routeEnc k v m ip o s st else ⟨#[]⟩
/-- What a valid route's numbers are. -/
theorem routeOk_bd {k v m ip o s : Int} {st : Bool} (h : routeOk k v m ip o s st = true) :
  (k = 2 ∨ k = 3) ∧ (1 ≤ v ∧ v ≤ 16777215) ∧ (0 ≤ m ∧ m ≤ 281474976710655) ∧ (0 ≤ ip ∧ ip ≤ 4294967295) ∧ (1 ≤ o ∧ o ≤ 4) ∧ (0 ≤ s ∧ s ≤ 1000000) := by
 unfold routeOk at h
 simp only [Bool.and_eq_true, Bool.or_eq_true, decide_eq_true_eq] at h
 obtain ⟨⟨hv, ho⟩, ⟨hk, ⟨⟨hm, _⟩, hi⟩, hs⟩ | ⟨hk, ⟨⟨hm, hi⟩, hs⟩, _⟩⟩ := h
 ·exact ⟨.inl hk, hv, hm, hi, ho, hs⟩
 ·exact ⟨.inr hk, hv, by omega, by omega, ho, by omega⟩

def noteEnc (n k v m ip o s : Int) (st : Bool) : ByteArray := if n = 3 then encN n else encN n ++ routeEnc k v m ip o s st
def noteBytes (n k v m ip o s : Int) (st : Bool) : ByteArray := if noteOk n k v m ip o s st = true then noteEnc n k v m ip o s st else ⟨#[]⟩
theorem noteOk_bd {n k v m ip o s : Int} {st : Bool} (h : noteOk n k v m ip o s st = true) :
  ((n = 1 ∨ n = 2) ∧ routeOk k v m ip o s st = true) ∨ (n = 3 ∧ k = 0 ∧ v = 0 ∧ m = 0 ∧ ip = 0 ∧ o = 0 ∧ s = 0 ∧ st = false) := by
 unfold noteOk at h
 by_cases h1 : n = 1
 ·rw [if_pos h1] at h; exact .inl ⟨.inl h1, h⟩
 ·rw [if_neg h1] at h
  by_cases h2 : n = 2
  ·rw [if_pos h2] at h
   rw [Bool.and_eq_true] at h
   exact .inl ⟨.inr h2, h.1⟩
  ·rw [if_neg h2] at h
   simp only [Bool.and_eq_true, decide_eq_true_eq, Bool.not_eq_true'] at h
   exact .inr h
theorem routeEnc_size (k v m ip o s : Int) (st : Bool) : (routeEnc k v m ip o s st).size ≤ 70 := by
 unfold routeEnc
 have z1 := encN_size k; have z2 := encN_size v; have z3 := encN_size m; have z4 := encN_size ip; have z5 := encN_size o; have z6 := encN_size s; have z7 := encN_size (if st = true then 1 else 0)
 simp only [ByteArray.size_append]
 omega

theorem s_noteRight (j : Nat) (n k v m ip o s : Int) (st : Bool) : spec_NoteRight.f (j + 1) n k v m ip o s st = some (noteOk n k v m ip o s st) := by
 unfold spec_NoteRight.f noteOk spec_KeyOf.f
 simp only [s_routeRight, Option.bind_some]
 by_cases h1 : n = 1
 ·rw [if_pos h1, if_pos h1]
 ·rw [if_neg h1, if_neg h1]
  by_cases h2 : n = 2
  ·rw [if_pos h2, if_pos h2]
   cases routeOk k v m ip o s st
   ·simp
   ·cases st
    ·simp; rfl
    ·simp
  ·rw [if_neg h2, if_neg h2]
   by_cases h3 : n = 3
   ·rw [if_pos h3]; simp [h3]; cases st <;> rfl
   ·simp [h3]

theorem s_fold {n : Int} (h : -9223372036854775808 ≤ n ∧ n ≤ 9223372036854775807) : spec_l01Fold.f n = some (zz n : Int) := by
 unfold spec_l01Fold.f
 rw [zz_cast]
 by_cases hn : n < 0
 ·rw [if_pos hn, if_pos hn]
  have e1 : wrap64 (n + 1) = n + 1 := by unfold wrap64; omega
  have e2 : wrap64 (-(n + 1)) = -(n + 1) := by unfold wrap64; omega
  rw [e1, e2, wrap_u64, wrap_u64, wrap_u64]
  congr 1
  omega
 ·rw [if_neg hn, if_neg hn, wrap_u64, wrap_u64]
  congr 1
  omega
theorem s_put_l0 : ∀ (f k u : Nat) (out : List Int), u < 128 ^ (f + 1) → u < 18446744073709551616 → f < k → out.length + f ≤ 100 →
  spec_PutNum.l0 k (u : Int) out = some (strOfNums (out ++ vi (f + 1) u)) := by
 intro f
 induction f with
 | zero =>
  intro k u out h1 _ hk hl
  obtain ⟨k, rfl⟩ : ∃ m, k = m + 1 := ⟨k - 1, by omega⟩
  have hu : u < 128 := by simpa using h1
  simp only [spec_PutNum.l0]
  rw [if_neg (by omega), if_pos (by omega)]
  have e : (u : Int) % 256 = (u : Int) := by omega
  rw [e]
  simp only [vi, if_pos hu]
 | succ f ih =>
  intro k u out h1 h2 hk hl
  obtain ⟨k, rfl⟩ : ∃ m, k = m + 1 := ⟨k - 1, by omega⟩
  by_cases hu : u < 128
  ·simp only [spec_PutNum.l0]
   rw [if_neg (by omega), if_pos (by omega)]
   have e : (u : Int) % 256 = (u : Int) := by omega
   rw [e, vi, if_pos hu]
  ·simp only [spec_PutNum.l0]
   rw [if_pos (by omega), if_pos (by omega)]
   have e1 : IntKind.u64.wrap (Int.tdiv (u : Int) 128) = ((u / 128 : Nat) : Int) := by
    rw [wrap_u64, Int.tdiv_eq_ediv_of_nonneg (by omega)]; omega
   have e2 : IntKind.u64.wrap (Int.tmod (u : Int) 128 + 128) % 256 = ((u % 128 + 128 : Nat) : Int) := by
    rw [wrap_u64, Int.tmod_eq_emod_of_nonneg (by omega)]; omega
   rw [e1, e2, ih k (u / 128) _ (by rw [Nat.pow_succ] at h1; omega) (by omega) (by omega) (by simp; omega)]
   rw [show vi (f + 1 + 1) u = ((u % 128 + 128 : Nat) : Int) :: vi (f + 1) (u / 128) from by rw [vi, if_neg hu]]
   simp
theorem s_putNum {n : Int} (h : -9223372036854775808 ≤ n ∧ n ≤ 9223372036854775807) (k : Nat) (hk : 10 ≤ k) : spec_PutNum.f k n = some (encN n) := by
 unfold spec_PutNum.f
 rw [s_fold h, Option.bind_some]
 have hz := zz_lt h
 rw [s_put_l0 9 k (zz n) [] (by rw [show 9 + 1 = 10 from rfl, pow128]; omega) hz (by omega) (by simp)]
 rfl

theorem s_l03Bytes {k v m ip o s : Int} {st : Bool} (h : routeOk k v m ip o s st = true) (j : Nat) (hj : 11 ≤ j) : spec_l03Bytes.f j k v m ip o s st = some (routeEnc k v m ip o s st) := by
 obtain ⟨j, rfl⟩ : ∃ q, j = q + 1 := ⟨j - 1, by omega⟩
 obtain ⟨hk, hv, hm, hi, ho, hs⟩ := routeOk_bd h
 have z1 := encN_size k; have z2 := encN_size v; have z3 := encN_size m; have z4 := encN_size ip; have z5 := encN_size o; have z6 := encN_size s; have z7 := encN_size 1; have z8 := encN_size 0
 have e : ∀ b : Int, 0 ≤ b → b ≤ 1 → spec_l03Bytes.j0 (j + 1) b k v m ip o s st = some (((((((encN k ++ encN v) ++ encN m) ++ encN ip) ++ encN o) ++ encN s)) ++ encN b) := by
  intro b b0 b1
  have z9 := encN_size b
  simp only [spec_l03Bytes.j0]
  rw [s_putNum (by omega) j (by omega), s_putNum (by omega) j (by omega), s_putNum (by omega) j (by omega), s_putNum (by omega) j (by omega), s_putNum (by omega) j (by omega), s_putNum (by omega) j (by omega), s_putNum (by omega) j (by omega)]
  simp only [Option.bind_some]
  rw [if_pos (by omega), if_pos (by omega), if_pos (by omega), if_pos (by omega), if_pos (by omega), if_pos (by omega)]
 unfold spec_l03Bytes.f routeEnc
 cases st
 ·rw [if_neg (by simp), if_neg (by simp)]; exact e 0 (by omega) (by omega)
 ·rw [if_pos rfl, if_pos rfl]; exact e 1 (by omega) (by omega)

theorem s_noteBytes (n k v m ip o s : Int) (st : Bool) (j : Nat) (hj : 11 ≤ j) : spec_NoteBytes.f j n k v m ip o s st = some (noteBytes n k v m ip o s st) := by
 obtain ⟨i, rfl⟩ : ∃ q, j = q + 1 := ⟨j - 1, by omega⟩
 unfold spec_NoteBytes.f noteBytes
 rw [s_noteRight, Option.bind_some]
 by_cases h : noteOk n k v m ip o s st = true
 ·rw [if_pos h, if_pos h]
  unfold spec_l04Bytes.f noteEnc
  rcases noteOk_bd h with ⟨h1, hr⟩ | ⟨h3, _⟩
  ·have z1 := encN_size n; have z2 := routeEnc_size k v m ip o s st
   rw [if_neg (by omega), if_neg (by omega), s_putNum (by omega) _ (by omega), s_l03Bytes hr _ hj]
   simp only [Option.bind_some]
   rw [if_pos (by omega)]; rfl
  ·rw [if_pos h3, if_pos h3, s_putNum (by omega) _ (by omega)]; rfl
 ·rw [if_neg h, if_neg h]

theorem i_noteRight (j : Nat) (n k v m ip o s : Int) (st : Bool) : impl_NoteRight.f (j + 1) n k v m ip o s st = some (noteOk n k v m ip o s st) := by
 unfold impl_NoteRight.f noteOk impl_KeyOf.f
 simp only [i_routeRight, Option.bind_some]
 by_cases h1 : n = 1
 ·rw [if_pos h1, if_pos h1]
 ·rw [if_neg h1, if_neg h1]
  by_cases h2 : n = 2
  ·rw [if_pos h2, if_pos h2]
   cases routeOk k v m ip o s st
   ·simp
   ·cases st
    ·simp; rfl
    ·simp
  ·rw [if_neg h2, if_neg h2]
   by_cases h3 : n = 3
   ·simp [h3]; cases st <;> rfl
   ·simp [h3]

theorem i_fold {n : Int} (h : -9223372036854775808 ≤ n ∧ n ≤ 9223372036854775807) :
  Go.bits .xor .u64 (IntKind.u64.wrap ((IntKind.u64.wrap n) * 2)) (IntKind.u64.wrap (n / 9223372036854775808)) = (zz n : Int) := by
 rw [zz_cast, wrap_u64, wrap_u64, wrap_u64]
 by_cases hn : n < 0
 ·rw [if_pos hn]
  have e1 : n % 18446744073709551616 * 2 % 18446744073709551616 = ((2 * n + 18446744073709551616).toNat : Int) := by omega
  have e2 : n / 9223372036854775808 % 18446744073709551616 = ((18446744073709551615 : Nat) : Int) := by omega
  rw [e1, e2, bits_xor_nat, wrap_u64]
  have hb : (2 : Nat) ^ IntKind.u64.bits = 18446744073709551616 := by decide
  rw [hb, Nat.mod_eq_of_lt (by omega : (2 * n + 18446744073709551616).toNat < 18446744073709551616), show 18446744073709551615 % 18446744073709551616 = 18446744073709551615 from by decide, xor_ones _ (by omega)]
  omega
 ·rw [if_neg hn]
  have e1 : n % 18446744073709551616 * 2 % 18446744073709551616 = ((2 * n).toNat : Int) := by omega
  have e2 : n / 9223372036854775808 % 18446744073709551616 = ((0 : Nat) : Int) := by omega
  rw [e1, e2, bits_xor_nat, wrap_u64]
  have hb : (2 : Nat) ^ IntKind.u64.bits = 18446744073709551616 := by decide
  rw [hb, Nat.mod_eq_of_lt (by omega : (2 * n).toNat < 18446744073709551616), Nat.zero_mod, Nat.xor_zero]
  omega
set_option maxRecDepth 10000 in
theorem or128 : ∀ b : Nat, b < 256 → b ||| 128 = b % 128 + 128 := by decide +kernel
theorem i_or (u : Nat) : Go.bits .or .u8 ((u : Int) % 256) 128 = ((u % 128 + 128 : Nat) : Int) := by
 have e : (u : Int) % 256 = ((u % 256 : Nat) : Int) := by omega
 have e2 : (128 : Int) = ((128 : Nat) : Int) := rfl
 rw [e, e2, bits_or_nat, IntKind.wrap_u8]
 have hb : (2 : Nat) ^ IntKind.u8.bits = 256 := by decide
 rw [hb, Nat.mod_mod, show 128 % 256 = 128 from rfl, or128 (u % 256) (by omega)]
 omega
theorem i_put_l0 : ∀ (f k u : Nat) (out : List Int), u < 128 ^ (f + 1) → u < 18446744073709551616 → f < k → out.length + f ≤ 100 →
  impl_PutNum.l0 k (u : Int) out = some (strOfNums (out ++ vi (f + 1) u)) := by
 intro f
 induction f with
 | zero =>
  intro k u out h1 _ hk hl
  obtain ⟨k, rfl⟩ : ∃ m, k = m + 1 := ⟨k - 1, by omega⟩
  have hu : u < 128 := by simpa using h1
  simp only [impl_PutNum.l0]
  rw [if_neg (by omega), if_pos (by omega)]
  have e : (u : Int) % 256 = (u : Int) := by omega
  rw [e]
  simp only [vi, if_pos hu]
 | succ f ih =>
  intro k u out h1 h2 hk hl
  obtain ⟨k, rfl⟩ : ∃ m, k = m + 1 := ⟨k - 1, by omega⟩
  by_cases hu : u < 128
  ·simp only [impl_PutNum.l0]
   rw [if_neg (by omega), if_pos (by omega)]
   have e : (u : Int) % 256 = (u : Int) := by omega
   rw [e, vi, if_pos hu]
  ·simp only [impl_PutNum.l0]
   rw [if_pos (by omega), if_pos (by omega)]
   have e1 : (u : Int) / 128 = ((u / 128 : Nat) : Int) := by omega
   rw [e1, i_or, ih k (u / 128) _ (by rw [Nat.pow_succ] at h1; omega) (by omega) (by omega) (by simp; omega)]
   rw [show vi (f + 1 + 1) u = ((u % 128 + 128 : Nat) : Int) :: vi (f + 1) (u / 128) from by rw [vi, if_neg hu]]
   simp
theorem i_putNum {n : Int} (h : -9223372036854775808 ≤ n ∧ n ≤ 9223372036854775807) (k : Nat) (hk : 10 ≤ k) : impl_PutNum.f k n = some (encN n) := by
 unfold impl_PutNum.f
 rw [i_fold h]
 have hz := zz_lt h
 rw [i_put_l0 9 k (zz n) [] (by rw [show 9 + 1 = 10 from rfl, pow128]; omega) hz (by omega) (by simp)]
 rfl

theorem i_flag (b : Bool) : impl_flag.f b = some (if b = true then 1 else 0) := by
 unfold impl_flag.f; split <;> rfl
theorem i_routeBytes (k v m ip o s : Int) (st : Bool) (j : Nat) (hj : 11 ≤ j) : impl_RouteBytes.f j k v m ip o s st = some (routeBytes k v m ip o s st) := by
 obtain ⟨i, rfl⟩ : ∃ q, j = q + 1 := ⟨j - 1, by omega⟩
 unfold impl_RouteBytes.f routeBytes
 rw [i_routeRight, Option.bind_some]
 by_cases h : routeOk k v m ip o s st = true
 ·rw [if_pos h, if_pos h]
  obtain ⟨hk, hv, hm, hi, ho, hs⟩ := routeOk_bd h
  have z1 := encN_size k; have z2 := encN_size v; have z3 := encN_size m; have z4 := encN_size ip; have z5 := encN_size o; have z6 := encN_size s; have z7 := encN_size (if st = true then 1 else 0)
  have hb : 0 ≤ (if st = true then 1 else 0 : Int) ∧ (if st = true then 1 else 0 : Int) ≤ 1 := by split <;> omega
  rw [i_flag]
  simp only [Option.bind_some]
  unfold routeEnc
  generalize (if st = true then 1 else 0 : Int) = b at *
  rw [i_putNum (by omega) _ (by omega), i_putNum (by omega) _ (by omega), i_putNum (by omega) _ (by omega), i_putNum (by omega) _ (by omega), i_putNum (by omega) _ (by omega), i_putNum (by omega) _ (by omega), i_putNum (by omega) _ (by omega)]
  simp only [Option.bind_some]
  rw [if_pos (by omega), if_pos (by omega), if_pos (by omega), if_pos (by omega), if_pos (by omega), if_pos (by omega)]
 ·rw [if_neg h, if_neg h]

theorem i_noteBytes (n k v m ip o s : Int) (st : Bool) (j : Nat) (hj : 11 ≤ j) : impl_NoteBytes.f j n k v m ip o s st = some (noteBytes n k v m ip o s st) := by
 obtain ⟨i, rfl⟩ : ∃ q, j = q + 1 := ⟨j - 1, by omega⟩
 unfold impl_NoteBytes.f noteBytes
 rw [i_noteRight, Option.bind_some]
 by_cases h : noteOk n k v m ip o s st = true
 ·rw [if_pos h, if_pos h, i_routeBytes _ _ _ _ _ _ _ _ hj]
  unfold noteEnc routeBytes
  have z1 := encN_size n; have z2 := routeEnc_size k v m ip o s st
  rcases noteOk_bd h with ⟨h1, hr⟩ | ⟨h3, rfl, rfl, rfl, rfl, rfl, rfl, rfl⟩
  ·rw [if_neg (by omega : ¬ n = 3), i_putNum (by omega) _ (by omega), if_pos hr]
   simp only [Option.bind_some]
   rw [if_pos (by omega)]
  ·rw [if_pos h3, i_putNum (by omega) _ (by omega), if_neg (by decide)]
   simp only [Option.bind_some]
   rw [if_pos (by have e : (⟨#[]⟩ : ByteArray).size = 0 := rfl; omega)]
   congr 1
   apply ByteArray.ext
   simp
 ·rw [if_neg h, if_neg h]


def unzz (u : Nat) : Int := if u % 2 = 1 then -((u / 2 : Nat) : Int) - 1 else ((u / 2 : Nat) : Int)
def gdec : Nat → ByteArray → Int → Nat → Nat → Int × Int × Int
 | 0, _, _, _, _ => (0, 0, 3)
 | f + 1, s, a, i, u =>
  if a + i ≥ (s.size : Int) then (0, 0, 4)
  else if i = 9 ∧ bt s (a + i) > 1 then (0, 0, 3)
  else if bt s (a + i) ≥ 128 then gdec f s a (i + 1) (u + (bt s (a + i)).toNat % 128 * 2 ^ (7 * i))
  else if bt s (a + i) = 0 ∧ i > 0 then (0, 0, 3)
  else (unzz (u + (bt s (a + i)).toNat % 128 * 2 ^ (7 * i)), a + i + 1, 0)
def gnum (s : ByteArray) (a : Int) : Int × Int × Int := if (s.size : Int) > 8000 then (0, 0, 2) else if a < 0 then (0, 0, 1) else gdec 10 s a 0 0
theorem pow7s (i : Nat) : (2 : Nat) ^ (7 * (i + 1)) = 128 * 2 ^ (7 * i) := by
 rw [Nat.mul_add, Nat.pow_add, Nat.mul_comm]
/-- One more group fits. -/
theorem group_lt {u c i : Nat} (hi : i ≤ 9) (hu : u < 2 ^ (7 * i)) (hc : i = 9 → c ≤ 1) : c % 128 * 2 ^ (7 * i) < 18446744073709551616 ∧ u + c % 128 * 2 ^ (7 * i) < 18446744073709551616 ∧ (i < 9 → u + c % 128 * 2 ^ (7 * i) < 2 ^ (7 * (i + 1))) := by
 have hm : c % 128 < 128 := Nat.mod_lt _ (by decide)
 rcases Nat.lt_or_ge i 9 with h | h
 ·have h8 : (2 : Nat) ^ (7 * i) ≤ 72057594037927936 := by
   have := Nat.pow_le_pow_right (n := 2) (by decide) (show 7 * i ≤ 56 by omega)
   rwa [show (2 : Nat) ^ 56 = 72057594037927936 from by decide] at this
  have hs := pow7s i
  rw [hs]
  have h1 : c % 128 * 2 ^ (7 * i) ≤ 127 * 2 ^ (7 * i) := Nat.mul_le_mul_right _ (by omega)
  generalize 2 ^ (7 * i) = z at *
  generalize c % 128 * z = y at *
  omega
 ·obtain rfl : i = 9 := by omega
  have hc := hc rfl
  have e : c % 128 = c := Nat.mod_eq_of_lt (by omega)
  have e9 : (2 : Nat) ^ (7 * 9) = 9223372036854775808 := by decide
  have h1 : c % 128 * 2 ^ (7 * 9) ≤ 9223372036854775808 := by
   rw [e, e9]; exact Nat.le_trans (Nat.mul_le_mul_right _ hc) (by decide)
  rw [e9] at hu
  generalize c % 128 * 2 ^ (7 * 9) = y at *
  clear e e9
  exact ⟨by omega, by omega, fun h => absurd h (by omega)⟩
theorem shl_u64 {x i : Nat} (hi : i ≤ 9) (hx : x * 2 ^ (7 * i) < 18446744073709551616) {y : Int} (hy : y = 7 * (i : Int)) : shl .u64 (x : Int) y = ((x * 2 ^ (7 * i) : Nat) : Int) := by
 subst hy
 unfold shl
 have hb : IntKind.u64.bits = 64 := rfl
 have e : min (7 * (i : Int)).toNat 64 = 7 * i := by omega
 rw [hb, e, wrap_u64]
 have e2 : (x : Int) * 2 ^ (7 * i) = ((x * 2 ^ (7 * i) : Nat) : Int) := by simp
 rw [e2]
 omega

theorem unzz_zz (n : Int) : unzz (zz n) = n := by
 have h := zz_cast n
 unfold unzz
 by_cases hn : n < 0
 ·rw [if_pos hn] at h; rw [if_pos (by omega)]; omega
 ·rw [if_neg hn] at h; rw [if_neg (by omega)]; omega
theorem vi_byte : ∀ (f u : Nat) (c : Int), c ∈ vi f u → 0 ≤ c ∧ c < 256
 | 0, _, c, h => by simp [vi] at h
 | f + 1, u, c, h => by
  rw [vi] at h
  by_cases hu : u < 128
  ·rw [if_pos hu] at h; simp only [List.mem_singleton] at h; omega
  ·rw [if_neg hu, List.mem_cons] at h
   rcases h with h | h
   ·omega
   ·exact vi_byte f _ c h
theorem vi_pos (f u : Nat) : 0 < (vi (f + 1) u).length := by
 rw [vi]; split <;> simp
theorem bt_of (s : ByteArray) (i : Int) : bt s i = (bytesOf s).getD i.toNat 0 := by
 unfold bt bytesOf
 by_cases h : i.toNat < s.size
 ·rw [dif_pos h, List.getD_eq_getElem?_getD, List.getElem?_map, List.getElem?_eq_getElem (show i.toNat < s.data.toList.length from h)]
  rfl
 ·rw [dif_neg h, List.getD_eq_getElem?_getD, List.getElem?_eq_none (by rw [List.length_map]; exact Nat.le_of_not_lt h)]
  rfl
theorem bytes_app (a b : ByteArray) : bytesOf (a ++ b) = bytesOf a ++ bytesOf b := by simp [bytesOf]
theorem bytes_str {xs : List Int} (h : ∀ c ∈ xs, 0 ≤ c ∧ c < 256) : bytesOf (strOfNums xs) = xs := by
 unfold bytesOf strOfNums
 simp only [List.map_map]
 have : ∀ c ∈ xs, ((fun b : UInt8 => (b.toNat : Int)) ∘ fun n : Int => UInt8.ofNat n.toNat) c = id c := by
  intro c hc
  have := h c hc
  simp only [Function.comp, id, UInt8.toNat_ofNat']
  omega
 rw [List.map_congr_left this, List.map_id]
theorem bytes_len (s : ByteArray) : (bytesOf s).length = s.size := by
 unfold bytesOf; rw [List.length_map]; rfl
theorem bytes_encN (n : Int) : bytesOf (encN n) = vi 10 (zz n) := bytes_str (fun c h => vi_byte _ _ c h)
theorem split128 (v z : Nat) : v % 128 * z + v / 128 * (128 * z) = v * z := by
 have h := Nat.mod_add_div v 128
 calc v % 128 * z + v / 128 * (128 * z) = (v % 128 + 128 * (v / 128)) * z := by rw [Nat.add_mul, Nat.mul_comm 128 (v / 128), Nat.mul_assoc]
  _ = v * z := by rw [h]
theorem last_group {v : Nat} (h : v * 2 ^ (7 * 9) < 18446744073709551616) : v ≤ 1 := by
 rw [show (2 : Nat) ^ (7 * 9) = 9223372036854775808 from by decide] at h; omega
theorem no_group {v : Nat} (h : v * 2 ^ (7 * 10) < 18446744073709551616) : v = 0 := by
 rw [show (2 : Nat) ^ (7 * 10) = 1180591620717411303424 from by decide] at h; omega
theorem next_group {v i : Nat} (h : v * 2 ^ (7 * i) < 18446744073709551616) : v / 128 * 2 ^ (7 * (i + 1)) < 18446744073709551616 := by
 have e := split128 v (2 ^ (7 * i))
 rw [pow7s]
 generalize v * 2 ^ (7 * i) = p at *
 generalize v / 128 * (128 * 2 ^ (7 * i)) = q at *
 generalize v % 128 * 2 ^ (7 * i) = r at *
 omega
theorem gdec_vi (s : ByteArray) (a : Int) : ∀ (f i u v : Nat), i + f = 10 → v * 2 ^ (7 * i) < 18446744073709551616 → (i > 0 → v > 0) →
  (∀ j : Nat, j < (vi f v).length → a + (i + j : Nat) < (s.size : Int) ∧ bt s (a + (i + j : Nat)) = (vi f v).getD j 0) →
  gdec f s a i u = (unzz (u + v * 2 ^ (7 * i)), a + (i : Int) + ((vi f v).length : Int), 0) := by
 intro f
 induction f with
 | zero =>
  intro i u v hi hv hp _
  obtain rfl : i = 10 := by omega
  have := no_group hv
  exact absurd (hp (by omega)) (by omega)
 | succ f ih =>
  intro i u v hi hv hp H
  have h0 := H 0 (vi_pos f v)
  rw [Nat.add_zero] at h0
  obtain ⟨h1, h2⟩ := h0
  have h9 : i = 9 → v ≤ 1 := by
   intro h; subst h; exact last_group hv
  rw [gdec, if_neg (by omega)]
  by_cases hu : v < 128
  ·have e : vi (f + 1) v = [(v : Int)] := by rw [vi, if_pos hu]
   rw [e] at h2 ⊢
   have h3 : bt s (a + (i : Int)) = (v : Int) := h2
   rw [h3, if_neg (by omega), if_neg (by omega), if_neg (by omega), Int.toNat_natCast, Nat.mod_eq_of_lt hu]
   rfl
  ·have e : vi (f + 1) v = ((v % 128 + 128 : Nat) : Int) :: vi f (v / 128) := by rw [vi, if_neg hu]
   rw [e] at h2 H ⊢
   have h3 : bt s (a + (i : Int)) = ((v % 128 + 128 : Nat) : Int) := h2
   rw [h3, if_neg (by omega), if_pos (by omega), Int.toNat_natCast]
   have e1 : (v % 128 + 128) % 128 = v % 128 := by omega
   rw [e1, ih (i + 1) _ (v / 128) (by omega) (next_group hv) (by omega) (by
    intro j hj
    have := H (j + 1) (by simpa using hj)
    rw [show i + (j + 1) = i + 1 + j from by omega] at this
    simpa using this)]
   have e2 := split128 v (2 ^ (7 * i))
   rw [← pow7s] at e2
   rw [Nat.add_assoc, e2, List.length_cons]
   congr 2
   omega
/-- A number that stands somewhere in a text is got from there. -/
theorem gnum_at {s : ByteArray} {a n : Int} (hs : (s.size : Int) ≤ 8000) (ha : 0 ≤ a) (hn : -9223372036854775808 ≤ n ∧ n ≤ 9223372036854775807)
  (H : ∀ j : Nat, j < (vi 10 (zz n)).length → a + (j : Int) < (s.size : Int) ∧ bt s (a + (j : Int)) = (vi 10 (zz n)).getD j 0) :
  gnum s a = (n, a + ((encN n).size : Int), 0) := by
 have hz := zz_lt hn
 unfold gnum
 rw [if_neg (by omega), if_neg (by omega), gdec_vi s a 10 0 0 (zz n) (by omega) (by simpa using hz) (by omega) (by simpa using H)]
 unfold encN
 rw [str_size]
 simp [unzz_zz]
theorem bt_mid (p q : ByteArray) (n : Int) (j : Nat) (h : j < (vi 10 (zz n)).length) : bt ((p ++ encN n) ++ q) ((p.size : Int) + (j : Int)) = (vi 10 (zz n)).getD j 0 := by
 rw [bt_of, bytes_app, bytes_app, bytes_encN]
 have hl := bytes_len p
 have e : ((p.size : Int) + (j : Int)).toNat = p.size + j := by omega
 rw [e, List.getD_eq_getElem?_getD, List.getD_eq_getElem?_getD, List.append_assoc, List.getElem?_append_right (by omega), hl, Nat.add_sub_cancel_left, List.getElem?_append_left h]
theorem encN_len (n : Int) : (encN n).size = (vi 10 (zz n)).length := by unfold encN; rw [str_size]
theorem gnum_mid {p q : ByteArray} {n : Int} (hs : (((p ++ encN n) ++ q).size : Int) ≤ 8000) (hn : -9223372036854775808 ≤ n ∧ n ≤ 9223372036854775807) :
  gnum ((p ++ encN n) ++ q) (p.size : Int) = (n, (p.size : Int) + ((encN n).size : Int), 0) := by
 have e : ((p ++ encN n) ++ q).size = p.size + (encN n).size + q.size := by simp
 have e2 := encN_len n
 exact gnum_at hs (by omega) hn (fun j hj => ⟨by omega, bt_mid p q n j hj⟩)
/-- A number that stands in a text is got from there. -/
theorem rd_step {s p q : ByteArray} {n : Int} (h : s = p ++ (encN n ++ q)) (hs : (s.size : Int) ≤ 8000) (hn : -9223372036854775808 ≤ n ∧ n ≤ 9223372036854775807) :
  gnum s (p.size : Int) = (n, ((p ++ encN n).size : Int), 0) ∧ s = (p ++ encN n) ++ q := by
 rw [← ByteArray.append_assoc] at h
 subst h
 rw [gnum_mid hs hn, ByteArray.size_append]
 exact ⟨by rw [Int.natCast_add], rfl⟩
theorem gnum_empty : gnum ⟨#[]⟩ 0 = (0, 0, 4) := by decide +kernel

/-- The seven numbers of a route, read one after the other. -/
theorem route_chain {s p : ByteArray} {k v m ip o q : Int} {st : Bool} (hok : routeOk k v m ip o q st = true) (h : s = p ++ routeEnc k v m ip o q st) (hs : (s.size : Int) ≤ 8000) :
  ∃ a1 a2 a3 a4 a5 a6 : Int, gnum s (p.size : Int) = (k, a1, 0) ∧ gnum s a1 = (v, a2, 0) ∧ gnum s a2 = (m, a3, 0) ∧ gnum s a3 = (ip, a4, 0) ∧ gnum s a4 = (o, a5, 0) ∧ gnum s a5 = (q, a6, 0) ∧ gnum s a6 = ((if st = true then 1 else 0), (s.size : Int), 0) := by
 obtain ⟨hk, hv, hm, hi, ho, hq⟩ := routeOk_bd hok
 have hb : 0 ≤ (if st = true then 1 else 0 : Int) ∧ (if st = true then 1 else 0 : Int) ≤ 1 := by split <;> omega
 have e : s = p ++ (encN k ++ (encN v ++ (encN m ++ (encN ip ++ (encN o ++ (encN q ++ (encN (if st = true then 1 else 0) ++ ByteArray.empty))))))) := by
  rw [h]; unfold routeEnc; simp only [ByteArray.append_assoc, ByteArray.append_empty]
 generalize (if st = true then 1 else 0 : Int) = b at *
 obtain ⟨g1, e1⟩ := rd_step e hs (by omega)
 obtain ⟨g2, e2⟩ := rd_step e1 hs (by omega)
 obtain ⟨g3, e3⟩ := rd_step e2 hs (by omega)
 obtain ⟨g4, e4⟩ := rd_step e3 hs (by omega)
 obtain ⟨g5, e5⟩ := rd_step e4 hs (by omega)
 obtain ⟨g6, e6⟩ := rd_step e5 hs (by omega)
 obtain ⟨g7, e7⟩ := rd_step e6 hs (by omega)
 rw [ByteArray.append_empty] at e7
 rw [← e7] at g7
 exact ⟨_, _, _, _, _, _, g1, g2, g3, g4, g5, g6, g7⟩
def routeRead (s : ByteArray) (R : Int × Int × Int × Int × Int × Int × Bool × Int) : Prop :=
 (s.size : Int) ≤ 8000 → (∀ k v m ip o q st, routeOk k v m ip o q st = true → s = routeEnc k v m ip o q st → R = (k, v, m, ip, o, q, st, 0)) ∧ ((¬ ∃ k v m ip o q st, routeOk k v m ip o q st = true ∧ s = routeEnc k v m ip o q st) → R = (0, 0, 0, 0, 0, 0, false, 3))
theorem flag_one (st : Bool) : ((if st = true then 1 else 0 : Int) == 1) = st := by cases st <;> rfl

theorem s_fin (z : Nat) (g2 : z < 18446744073709551616) (x : Int) :
  (if Int.tmod (z : Int) 2 = 1 then some (wrap64 (wrap64 (-(wrap64 (IntKind.u64.wrap (Int.tdiv (z : Int) 2)))) - 1), x, (0 : Int)) else some (wrap64 (IntKind.u64.wrap (Int.tdiv (z : Int) 2)), x, 0)) = some (unzz z, x, 0) := by
 have t1 : Int.tmod (z : Int) 2 = ((z % 2 : Nat) : Int) := tmod_nat z 2
 have t2 : Int.tdiv (z : Int) 2 = ((z / 2 : Nat) : Int) := tdiv_nat z 2
 have t3 : wrap64 (IntKind.u64.wrap ((z / 2 : Nat) : Int)) = ((z / 2 : Nat) : Int) := by rw [u64_id (by omega) (by omega), wrap64_id (by omega) (by omega)]
 have t4 : wrap64 (-((z / 2 : Nat) : Int)) = -((z / 2 : Nat) : Int) := wrap64_id (by omega) (by omega)
 have t5 : wrap64 (-((z / 2 : Nat) : Int) - 1) = -((z / 2 : Nat) : Int) - 1 := wrap64_id (by omega) (by omega)
 rw [t1, t2, t3, t4, t5]
 unfold unzz
 by_cases hp : z % 2 = 1
 ·rw [if_pos (by omega), if_pos hp]
 ·rw [if_neg (by omega), if_neg hp]
set_option maxHeartbeats 1000000 in
theorem s_gdec (s : ByteArray) (a : Int) (hs : (s.size : Int) ≤ 8000) (h0 : 0 ≤ a) (ha : a ≤ 9223372036854775807) : ∀ (f i u k : Nat), i + f = 10 → u < 2 ^ (7 * i) → 2 * f + 2 ≤ k →
  spec_GetNum.l0 k s a (u : Int) (i : Int) = some (gdec f s a i u) := by
 intro f
 induction f with
 | zero =>
  intro i u k hi _ hk
  obtain ⟨k, rfl⟩ : ∃ m, k = m + 1 := ⟨k - 1, by omega⟩
  simp only [spec_GetNum.l0]
  rw [if_neg (by omega)]; rfl
 | succ f ih =>
  intro i u k hi hu hk
  obtain ⟨k, rfl⟩ : ∃ m, k = m + 3 := ⟨k - 3, by omega⟩
  have w1 : wrap64 ((s.size : Int) - (i : Int)) = (s.size : Int) - i := wrap64_id (by omega) (by omega)
  simp only [spec_GetNum.l0, gdec]
  rw [if_pos (by omega), w1]
  by_cases hsh : a + (i : Int) ≥ (s.size : Int)
  ·rw [if_pos (by omega), if_pos hsh]
  ·rw [if_neg (by omega), if_neg hsh]
   have w2 : wrap64 (a + (i : Int)) = a + i := wrap64_id (by omega) (by omega)
   obtain ⟨b0, b1⟩ := bt_range s (a + i)
   obtain ⟨c, hc⟩ := Int.eq_ofNat_of_zero_le b0
   have w3 : IntKind.u64.wrap (bt s (a + (i : Int))) = (c : Int) := by rw [u64_id b0 (by omega), hc]
   have w4 : IntKind.u64.wrap (wrap64 (7 * (i : Int))) = 7 * (i : Int) := by rw [wrap64_id (by omega) (by omega), u64_id (by omega) (by omega)]
   have w5 : Int.tmod (c : Int) 128 = ((c % 128 : Nat) : Int) := tmod_nat c 128
   simp only [w2, w3]
   rw [if_pos (by omega), if_pos (by omega), hc, Int.toNat_natCast]
   rw [hc] at b1
   by_cases h9 : i = 9 ∧ (c : Int) > 1
   ·obtain ⟨h9, h91⟩ := h9
    rw [if_pos (by omega), if_pos ⟨h9, h91⟩]
    simp only [spec_GetNum.j1]
    rw [if_pos (by simpa using h91)]
   ·rw [if_neg h9]
    have hfl : (if (i : Int) = 9 then spec_GetNum.j1 (k + 2) s a (u : Int) (i : Int) (c : Int) (decide ((c : Int) > 1)) else spec_GetNum.j1 (k + 2) s a (u : Int) (i : Int) (c : Int) false) = spec_GetNum.j1 (k + 2) s a (u : Int) (i : Int) (c : Int) false := by
     split
     ·have : decide ((c : Int) > 1) = false := decide_eq_false (by omega)
      rw [this]
     ·rfl
    rw [hfl]
    obtain ⟨g1, g2, g3⟩ := group_lt (c := c) (show i ≤ 9 by omega) hu (by omega)
    have w6 : shl .u64 ((c % 128 : Nat) : Int) (7 * (i : Int)) = ((c % 128 * 2 ^ (7 * i) : Nat) : Int) := shl_u64 (by omega) g1 rfl
    generalize c % 128 * 2 ^ (7 * i) = v at *
    have w7 : IntKind.u64.wrap ((u : Int) + (v : Int)) = ((u + v : Nat) : Int) := by rw [u64_id (by omega) (by omega)]; omega
    have w8 : wrap64 ((i : Int) + 1) = ((i + 1 : Nat) : Int) := wrap64_id (by omega) (by omega)
    simp only [spec_GetNum.j1, w4, w5, w6, w7, w8]
    clear w4 w5 w6 w7 w8 w1 w3 hu g1
    generalize u + v = z at *
    rw [if_neg (by simp), if_pos (by omega)]
    by_cases h128 : (c : Int) ≥ 128
    ·rw [if_neg (by omega), if_pos h128]
     rcases Nat.lt_or_ge i 9 with h | h
     ·exact ih (i + 1) _ _ (by omega) (g3 h) (by omega)
     ·exfalso; omega
    ·rw [if_pos (by omega), if_neg h128]
     by_cases hz : (c : Int) = 0 ∧ i > 0
     ·rw [if_pos hz.1, if_pos hz]
      simp only [spec_GetNum.j2]
      rw [if_pos (by simpa using hz.2)]
     ·have hfl2 : (if (c : Int) = 0 then spec_GetNum.j2 (k + 1) a (z : Int) (i : Int) (decide ((i : Int) > 0)) else spec_GetNum.j2 (k + 1) a (z : Int) (i : Int) false) = spec_GetNum.j2 (k + 1) a (z : Int) (i : Int) false := by
       split
       ·have : decide ((i : Int) > 0) = false := decide_eq_false (by omega)
        rw [this]
       ·rfl
      rw [hfl2, if_neg hz]
      simp only [spec_GetNum.j2, w2]
      rw [if_neg (by simp)]
      have t6 : wrap64 (a + (i : Int) + 1) = a + i + 1 := wrap64_id (by omega) (by omega)
      rw [t6]
      exact s_fin z g2 _
theorem s_getNum (s : ByteArray) (a : Int) (ha : a ≤ 9223372036854775807) (k : Nat) (hk : 22 ≤ k) : spec_GetNum.f k s a = some (gnum s a) := by
 unfold spec_GetNum.f gnum
 by_cases h : (s.size : Int) > 8000
 ·rw [if_pos h, if_pos h]
 ·rw [if_neg h, if_neg h]
  by_cases h0 : a < 0
  ·rw [if_pos h0, if_pos h0]
  ·rw [if_neg h0, if_neg h0]
   exact s_gdec s a (by omega) (by omega) ha 10 0 0 k (by omega) (by simp) (by omega)

/-- What a decoded number is, and where it ends. -/
theorem gdec_ok : ∀ (f : Nat) (s : ByteArray) (a : Int) (i u : Nat), 0 ≤ a → (gdec f s a i u).2.2 = 0 → 0 ≤ (gdec f s a i u).2.1 ∧ (gdec f s a i u).2.1 ≤ (s.size : Int)
 | 0, s, a, i, u, _, h => by simp [gdec] at h
 | f + 1, s, a, i, u, h0, h => by
  rw [gdec] at h ⊢
  by_cases h1 : a + i ≥ (s.size : Int)
  ·rw [if_pos h1] at h; simp at h
  ·rw [if_neg h1] at h ⊢
   by_cases h2 : i = 9 ∧ bt s (a + i) > 1
   ·rw [if_pos h2] at h; simp at h
   ·rw [if_neg h2] at h ⊢
    by_cases h3 : bt s (a + i) ≥ 128
    ·rw [if_pos h3] at h ⊢; exact gdec_ok f s a _ _ h0 h
    ·rw [if_neg h3] at h ⊢
     by_cases h4 : bt s (a + i) = 0 ∧ i > 0
     ·rw [if_pos h4] at h; simp at h
     ·rw [if_neg h4]; exact ⟨by simp only; omega, by simp only; omega⟩
theorem gnum_ok {s : ByteArray} {a : Int} (h : (gnum s a).2.2 = 0) : (s.size : Int) ≤ 8000 ∧ 0 ≤ (gnum s a).2.1 ∧ (gnum s a).2.1 ≤ (s.size : Int) := by
 unfold gnum at h ⊢
 by_cases h1 : (s.size : Int) > 8000
 ·rw [if_pos h1] at h; simp at h
 ·rw [if_neg h1] at h ⊢
  by_cases h2 : a < 0
  ·rw [if_pos h2] at h; simp at h
  ·rw [if_neg h2] at h ⊢
   have := gdec_ok 10 s a 0 0 (by omega) h
   exact ⟨by omega, this⟩
theorem s_num (s : ByteArray) (a : Int) (d : Bool) (ha : a ≤ 8000) (k : Nat) (hk : 22 ≤ k) : ∃ n b e, spec_l03Reader_num.f k s a d = some (n, s, b, e) ∧ b ≤ 8000 ∧
  (∀ {n' b' : Int}, d = false → gnum s a = (n', b', 0) → n = n' ∧ b = b' ∧ e = false) ∧ (d = true → e = true) ∧ ((gnum s a).2.2 ≠ 0 → e = true) := by
 unfold spec_l03Reader_num.f
 rw [s_getNum s a (by omega) k hk, Option.bind_some]
 cases d with
 | true =>
  rw [if_pos rfl]
  exact ⟨_, _, _, rfl, ha, fun h => absurd h (by decide), fun _ => rfl, fun _ => rfl⟩
 | false =>
  rw [if_neg (by decide)]
  by_cases h0 : (gnum s a).2.2 = 0
  ·rw [if_pos h0]
   have := gnum_ok h0
   refine ⟨_, _, _, rfl, by omega, ?_, fun h => absurd h (by decide), fun h => absurd h0 h⟩
   intro n' b' _ hg
   rw [hg]
   exact ⟨rfl, rfl, rfl⟩
  ·rw [if_neg h0]
   refine ⟨_, _, _, rfl, ha, ?_, fun _ => rfl, fun _ => rfl⟩
   intro n' b' _ hg
   rw [hg] at h0
   exact absurd rfl h0

theorem s_routeBytes (k v m ip o s : Int) (st : Bool) (j : Nat) (hj : 11 ≤ j) : spec_RouteBytes.f j k v m ip o s st = some (routeBytes k v m ip o s st) := by
 obtain ⟨i, rfl⟩ : ∃ q, j = q + 1 := ⟨j - 1, by omega⟩
 unfold spec_RouteBytes.f routeBytes
 rw [s_routeRight, Option.bind_some]
 by_cases h : routeOk k v m ip o s st = true
 ·rw [if_pos h, if_pos h, s_l03Bytes h _ hj]; rfl
 ·rw [if_neg h, if_neg h]

theorem s_routeRead (s : ByteArray) (hs : (s.size : Int) ≤ 8000) (k : Nat) (hk : 22 ≤ k) : ∃ R, spec_RouteRead.f k s = some R ∧ routeRead s R := by
 unfold spec_RouteRead.f
 rw [if_pos (by omega)]
 obtain ⟨n1, a1, d1, e1, h1, p1, q1, z1⟩ := s_num s 0 false (by omega) k hk
 rw [e1, Option.bind_some]
 simp only
 obtain ⟨n2, a2, d2, e2, h2, p2, q2, z2⟩ := s_num s a1 d1 h1 k hk
 rw [e2, Option.bind_some]
 simp only
 obtain ⟨n3, a3, d3, e3, h3, p3, q3, z3⟩ := s_num s a2 d2 h2 k hk
 rw [e3, Option.bind_some]
 simp only
 obtain ⟨n4, a4, d4, e4, h4, p4, q4, z4⟩ := s_num s a3 d3 h3 k hk
 rw [e4, Option.bind_some]
 simp only
 obtain ⟨n5, a5, d5, e5, h5, p5, q5, z5⟩ := s_num s a4 d4 h4 k hk
 rw [e5, Option.bind_some]
 simp only
 obtain ⟨n6, a6, d6, e6, h6, p6, q6, z6⟩ := s_num s a5 d5 h5 k hk
 rw [e6, Option.bind_some]
 simp only
 obtain ⟨n7, a7, d7, e7, h7, p7, q7, z7⟩ := s_num s a6 d6 h6 k hk
 rw [e7, Option.bind_some]
 simp only
 have key : ∀ k v m ip o q st, routeOk k v m ip o q st = true → s = routeEnc k v m ip o q st → n1 = k ∧ n2 = v ∧ n3 = m ∧ n4 = ip ∧ n5 = o ∧ n6 = q ∧ n7 = (if st = true then 1 else 0) ∧ d7 = false := by
  intro k v m ip o q st hok hx
  obtain ⟨b1, b2, b3, b4, b5, b6, g1, g2, g3, g4, g5, g6, g7⟩ := route_chain (p := ⟨#[]⟩) hok (by rw [← hx]; exact (ByteArray.empty_append).symm) hs
  obtain ⟨rfl, rfl, rfl⟩ := p1 rfl g1
  obtain ⟨rfl, rfl, rfl⟩ := p2 rfl g2
  obtain ⟨rfl, rfl, rfl⟩ := p3 rfl g3
  obtain ⟨rfl, rfl, rfl⟩ := p4 rfl g4
  obtain ⟨rfl, rfl, rfl⟩ := p5 rfl g5
  obtain ⟨rfl, rfl, rfl⟩ := p6 rfl g6
  obtain ⟨rfl, rfl, rfl⟩ := p7 rfl g7
  exact ⟨rfl, rfl, rfl, rfl, rfl, rfl, rfl, rfl⟩
 by_cases hd : d7 = true
 ·rw [if_pos hd]
  refine ⟨_, rfl, fun _ => ⟨?_, fun _ => rfl⟩⟩
  intro k v m ip o q st hok hx
  obtain ⟨_, _, _, _, _, _, _, h⟩ := key k v m ip o q st hok hx
  rw [h] at hd
  cases hd
 ·rw [if_neg hd, s_routeBytes _ _ _ _ _ _ _ k (by omega), Option.bind_some]
  by_cases hb : routeBytes n1 n2 n3 n4 n5 n6 (n7 == 1) = s
  ·rw [if_pos hb]
   refine ⟨_, rfl, fun _ => ⟨?_, fun hno => ?_⟩⟩
   ·intro k v m ip o q st hok hx
    obtain ⟨rfl, rfl, rfl, rfl, rfl, rfl, h7, _⟩ := key k v m ip o q st hok hx
    rw [h7, flag_one]
   ·exfalso
    by_cases hok : routeOk n1 n2 n3 n4 n5 n6 (n7 == 1) = true
    ·exact hno ⟨_, _, _, _, _, _, _, hok, by unfold routeBytes at hb; rw [if_pos hok] at hb; exact hb.symm⟩
    ·unfold routeBytes at hb; rw [if_neg hok] at hb
     subst hb
     have z := z1 (by rw [gnum_empty]; decide)
     exact hd (q7 (q6 (q5 (q4 (q3 (q2 z))))))
  ·rw [if_neg hb]
   refine ⟨_, rfl, fun _ => ⟨?_, fun _ => rfl⟩⟩
   intro k v m ip o q st hok hx
   exfalso
   obtain ⟨rfl, rfl, rfl, rfl, rfl, rfl, h7, _⟩ := key k v m ip o q st hok hx
   rw [h7, flag_one] at hb
   unfold routeBytes at hb; rw [if_pos hok] at hb
   exact hb hx.symm

theorem and127 : ∀ b : Nat, b < 256 → b &&& 127 = b % 128 := by decide +kernel
theorem i_and {c : Nat} (h : c < 256) : IntKind.u64.wrap (Go.bits .and .u8 (c : Int) 127) = ((c % 128 : Nat) : Int) := by
 have e2 : (127 : Int) = ((127 : Nat) : Int) := rfl
 rw [e2, bits_and_nat, IntKind.wrap_u8, wrap_u64]
 have hb : (2 : Nat) ^ IntKind.u8.bits = 256 := by decide
 rw [hb, Nat.mod_eq_of_lt h, show 127 % 256 = 127 from rfl, and127 c h]
 omega
theorem or_group {u x i : Nat} (hu : u < 2 ^ (7 * i)) (h1 : x * 2 ^ (7 * i) < 18446744073709551616) (h2 : u + x * 2 ^ (7 * i) < 18446744073709551616) : Go.bits .or .u64 (u : Int) ((x * 2 ^ (7 * i) : Nat) : Int) = ((u + x * 2 ^ (7 * i) : Nat) : Int) := by
 rw [bits_or_nat, wrap_u64]
 have hb : (2 : Nat) ^ IntKind.u64.bits = 18446744073709551616 := by decide
 rw [hb, Nat.mod_eq_of_lt (by omega : u < 18446744073709551616), Nat.mod_eq_of_lt h1]
 have e : u ||| x * 2 ^ (7 * i) = u + x * 2 ^ (7 * i) := by
  rw [Nat.or_comm, Nat.mul_comm x, ← Nat.two_pow_add_eq_or_of_lt hu, Nat.add_comm]
 rw [e]
 omega
theorem and_one {z : Nat} (h : z < 18446744073709551616) : Go.bits .and .u64 (z : Int) 1 = ((z % 2 : Nat) : Int) := by
 have e2 : (1 : Int) = ((1 : Nat) : Int) := rfl
 rw [e2, bits_and_nat, wrap_u64]
 have hb : (2 : Nat) ^ IntKind.u64.bits = 18446744073709551616 := by decide
 rw [hb, Nat.mod_eq_of_lt h, show 1 % 18446744073709551616 = 2 ^ 1 - 1 from by decide, Nat.and_two_pow_sub_one_eq_mod]
 omega
theorem xor_zero_i64 {n : Nat} (h : n < 9223372036854775808) : Go.bits .xor .i64 (n : Int) 0 = (n : Int) := by
 have e2 : (0 : Int) = ((0 : Nat) : Int) := rfl
 rw [e2, bits_xor_nat, IntKind.wrap_i64]
 have hb : (2 : Nat) ^ IntKind.i64.bits = 18446744073709551616 := by decide
 rw [hb, Nat.mod_eq_of_lt (by omega : n < 18446744073709551616), Nat.zero_mod, Nat.xor_zero]
 omega
theorem xor_ones_i64 {n : Nat} (h : n < 9223372036854775808) : Go.bits .xor .i64 (n : Int) (-1) = -(n : Int) - 1 := by
 have hb : IntKind.i64.bits = 64 := rfl
 have e3 : (BitVec.ofInt 64 (-1)) = BitVec.ofNat 64 18446744073709551615 := by decide
 have e4 : Go.bits .xor .i64 (n : Int) (-1) = IntKind.i64.wrap (((BitVec.ofInt 64 (n : Int)) ^^^ (BitVec.ofInt 64 (-1))).toNat : Int) := rfl
 rw [e4, e3, BitVec.ofInt_natCast, BitVec.toNat_xor, BitVec.toNat_ofNat, BitVec.toNat_ofNat]
 have h64 : (2 : Nat) ^ 64 = 18446744073709551616 := by decide
 rw [h64, Nat.mod_eq_of_lt (by omega : n < 18446744073709551616), show 18446744073709551615 % 18446744073709551616 = 18446744073709551615 from by decide, xor_ones _ (by omega), IntKind.wrap_i64]
 omega
theorem i_fin {z : Nat} (g2 : z < 18446744073709551616) : Go.bits .xor .i64 (wrap64 ((z : Int) / 2)) (wrap64 (-(wrap64 (Go.bits .and .u64 (z : Int) 1)))) = unzz z := by
 rw [and_one g2]
 have t1 : wrap64 ((z : Int) / 2) = ((z / 2 : Nat) : Int) := wrap64_id (by omega) (by omega)
 have t2 : wrap64 ((z % 2 : Nat) : Int) = ((z % 2 : Nat) : Int) := wrap64_id (by omega) (by omega)
 rw [t1, t2]
 unfold unzz
 by_cases hp : z % 2 = 1
 ·rw [if_pos hp, hp]
  have t3 : wrap64 (-((1 : Nat) : Int)) = -1 := by unfold wrap64; omega
  rw [t3, xor_ones_i64 (by omega)]
 ·rw [if_neg hp, show z % 2 = 0 from by omega]
  have t3 : wrap64 (-((0 : Nat) : Int)) = 0 := by unfold wrap64; omega
  rw [t3, xor_zero_i64 (by omega)]
set_option maxHeartbeats 1000000 in
theorem i_gdec (s : ByteArray) (a : Int) (hs : (s.size : Int) ≤ 8000) (h0 : 0 ≤ a) (ha : a ≤ 8000) : ∀ (f i u k : Nat), i + f = 10 → 0 < f → u < 2 ^ (7 * i) → 2 * f + 2 ≤ k →
  impl_getNum.l0 k s a (u : Int) (i : Int) = some (gdec f s a i u) := by
 intro f
 induction f with
 | zero => intro i u k _ hf; omega
 | succ f ih =>
  intro i u k hi _ hu hk
  obtain ⟨k, rfl⟩ : ∃ m, k = m + 2 := ⟨k - 2, by omega⟩
  have w2 : wrap64 (a + (i : Int)) = a + i := wrap64_id (by omega) (by omega)
  simp only [impl_getNum.l0, gdec, w2]
  by_cases hsh : a + (i : Int) ≥ (s.size : Int)
  ·rw [if_pos hsh, if_pos hsh]
  ·rw [if_neg hsh, if_neg hsh]
   obtain ⟨b0, b1⟩ := bt_range s (a + i)
   obtain ⟨c, hc⟩ := Int.eq_ofNat_of_zero_le b0
   have w4 : wrap64 (7 * (i : Int)) = 7 * (i : Int) := wrap64_id (by omega) (by omega)
   rw [if_pos (by omega), if_pos (by omega), hc, Int.toNat_natCast]
   rw [hc] at b1
   have w5 := i_and (show c < 256 by omega)
   by_cases h9 : i = 9 ∧ (c : Int) > 1
   ·obtain ⟨h9, h91⟩ := h9
    rw [if_pos (by omega), if_pos ⟨h9, h91⟩]
    simp only [impl_getNum.j1]
    rw [if_pos (by simpa using h91)]
   ·rw [if_neg h9]
    have hfl : (if (i : Int) = 9 then impl_getNum.j1 (k + 1) s a (u : Int) (i : Int) (c : Int) (decide ((c : Int) > 1)) else impl_getNum.j1 (k + 1) s a (u : Int) (i : Int) (c : Int) false) = impl_getNum.j1 (k + 1) s a (u : Int) (i : Int) (c : Int) false := by
     split
     ·have : decide ((c : Int) > 1) = false := decide_eq_false (by omega)
      rw [this]
     ·rfl
    rw [hfl]
    obtain ⟨g1, g2, g3⟩ := group_lt (c := c) (show i ≤ 9 by omega) hu (by omega)
    have w6 : shl .u64 ((c % 128 : Nat) : Int) (7 * (i : Int)) = ((c % 128 * 2 ^ (7 * i) : Nat) : Int) := shl_u64 (by omega) g1 rfl
    have w7 := or_group hu g1 g2
    generalize c % 128 * 2 ^ (7 * i) = v at *
    have w8 : wrap64 ((i : Int) + 1) = ((i + 1 : Nat) : Int) := wrap64_id (by omega) (by omega)
    simp only [impl_getNum.j1, w2, w4, w5, w6, w7, w8]
    clear w4 w5 w6 w7 w8 hu g1
    generalize u + v = z at *
    rw [if_neg (by simp), if_pos (by omega)]
    by_cases h128 : (c : Int) ≥ 128
    ·rw [if_pos h128, if_pos h128]
     rcases Nat.lt_or_ge i 9 with h | h
     ·exact ih (i + 1) _ _ (by omega) (by omega) (g3 h) (by omega)
     ·exfalso; omega
    ·rw [if_neg h128, if_neg h128]
     have hv := i_fin g2
     have t6 : wrap64 (a + (i : Int) + 1) = a + i + 1 := wrap64_id (by omega) (by omega)
     rw [hv, t6]
     by_cases hz : (c : Int) = 0 ∧ i > 0
     ·rw [if_pos hz.1, if_pos (by omega), if_pos hz]
     ·rw [if_neg hz]
      by_cases hz0 : (c : Int) = 0
      ·rw [if_pos hz0, if_neg (by omega)]
      ·rw [if_neg hz0]
theorem i_getNum (s : ByteArray) (a : Int) (k : Nat) (hk : 22 ≤ k) : impl_GetNum.f k s a = some (gnum s a) := by
 unfold impl_GetNum.f impl_isLong.f gnum
 simp only [Option.bind_some, decide_eq_true_eq]
 by_cases h : (s.size : Int) > 8000
 ·rw [if_pos h, if_pos h]
 ·rw [if_neg h, if_neg h]
  by_cases h0 : a < 0
  ·rw [if_pos h0, if_pos h0]
  ·rw [if_neg h0, if_neg h0]
   by_cases h1 : a ≥ (s.size : Int)
   ·rw [if_pos h1]
    simp only [gdec]
    rw [if_pos (by omega)]
   ·rw [if_neg h1]
    unfold impl_getNum.f
    rw [show (0 : Int) = ((0 : Nat) : Int) from rfl, i_gdec s a (by omega) (by omega) (by omega) 10 0 0 k (by omega) (by omega) (by simp) (by omega)]
    rfl

theorem i_num (s : ByteArray) (a : Int) (d : Bool) (k : Nat) (hk : 22 ≤ k) : impl_reader_num.f k s a d = some ((gnum s a).1, s, (gnum s a).2.1, d || decide ((gnum s a).2.2 ≠ 0)) := by
 unfold impl_reader_num.f
 rw [i_getNum s a k hk, Option.bind_some]

/-- The reader's route: some seven numbers; those of a route where one stands there. -/
theorem i_route (s : ByteArray) (a : Int) (d : Bool) (k : Nat) (hk : 22 ≤ k) : ∃ X, impl_reader_route.f k s a d = some X ∧
  ∀ p kk v m ip o q st, a = (p : ByteArray).size → routeOk kk v m ip o q st = true → s = p ++ routeEnc kk v m ip o q st → (s.size : Int) ≤ 8000 → X = (kk, v, m, ip, o, q, st, s, (s.size : Int), d) := by
 unfold impl_reader_route.f
 rw [i_num _ _ _ k hk, Option.bind_some]
 simp only
 rw [i_num _ _ _ k hk, Option.bind_some]
 simp only
 rw [i_num _ _ _ k hk, Option.bind_some]
 simp only
 rw [i_num _ _ _ k hk, Option.bind_some]
 simp only
 rw [i_num _ _ _ k hk, Option.bind_some]
 simp only
 rw [i_num _ _ _ k hk, Option.bind_some]
 simp only
 rw [i_num _ _ _ k hk, Option.bind_some]
 refine ⟨_, rfl, ?_⟩
 intro p kk v m ip o q st ha hok hx hs
 subst ha
 obtain ⟨b1, b2, b3, b4, b5, b6, g1, g2, g3, g4, g5, g6, g7⟩ := route_chain hok hx hs
 simp only [g1, g2, g3, g4, g5, g6, g7, flag_one]
 simp

def noteRead (s : ByteArray) (R : Int × Int × Int × Int × Int × Int × Int × Bool × Int) : Prop :=
 (∀ n k v m ip o q st, noteOk n k v m ip o q st = true → s = noteEnc n k v m ip o q st → R = (n, k, v, m, ip, o, q, st, 0)) ∧ ((¬ ∃ n k v m ip o q st, noteOk n k v m ip o q st = true ∧ s = noteEnc n k v m ip o q st) → R = (0, 0, 0, 0, 0, 0, 0, false, 3))
theorem noteRead_eq {s : ByteArray} {R R' : Int × Int × Int × Int × Int × Int × Int × Bool × Int} (h : noteRead s R) (h' : noteRead s R') : R = R' := by
 by_cases hx : ∃ n k v m ip o q st, noteOk n k v m ip o q st = true ∧ s = noteEnc n k v m ip o q st
 ·obtain ⟨n, k, v, m, ip, o, q, st, h1, h2⟩ := hx
  rw [h.1 _ _ _ _ _ _ _ _ h1 h2, h'.1 _ _ _ _ _ _ _ _ h1 h2]
 ·rw [h.2 hx, h'.2 hx]
/-- The last step of both: what has been read stands if its bytes are the text. -/
theorem note_tail {s : ByteArray} {n k v m ip o q : Int} {st : Bool} (hs : s ≠ ⟨#[]⟩) (hk : ∀ n' k' v' m' ip' o' q' st', noteOk n' k' v' m' ip' o' q' st' = true → s = noteEnc n' k' v' m' ip' o' q' st' → (n', k', v', m', ip', o', q', st') = (n, k, v, m, ip, o, q, st)) :
  noteRead s (if noteBytes n k v m ip o q st = s then (n, k, v, m, ip, o, q, st, 0) else (0, 0, 0, 0, 0, 0, 0, false, 3)) := by
 by_cases hb : noteBytes n k v m ip o q st = s
 ·rw [if_pos hb]
  refine ⟨?_, fun hno => ?_⟩
  ·intro n' k' v' m' ip' o' q' st' h1 h2
   have h := hk _ _ _ _ _ _ _ _ h1 h2
   simp only [Prod.mk.injEq] at h
   obtain ⟨rfl, rfl, rfl, rfl, rfl, rfl, rfl, rfl⟩ := h
   rfl
  ·exfalso
   unfold noteBytes at hb
   by_cases hok : noteOk n k v m ip o q st = true
   ·rw [if_pos hok] at hb
    exact hno ⟨_, _, _, _, _, _, _, _, hok, hb.symm⟩
   ·rw [if_neg hok] at hb
    exact hs hb.symm
 ·rw [if_neg hb]
  refine ⟨?_, fun _ => rfl⟩
  intro n' k' v' m' ip' o' q' st' h1 h2
  exfalso
  have h := hk _ _ _ _ _ _ _ _ h1 h2
  simp only [Prod.mk.injEq] at h
  obtain ⟨rfl, rfl, rfl, rfl, rfl, rfl, rfl, rfl⟩ := h
  unfold noteBytes at hb
  rw [if_pos h1] at hb
  exact hb h2.symm
/-- The first number of a valid note's bytes. -/
theorem note_head {s : ByteArray} {n k v m ip o q : Int} {st : Bool} (hok : noteOk n k v m ip o q st = true) (h : s = noteEnc n k v m ip o q st) (hs : (s.size : Int) ≤ 8000) :
  gnum s 0 = (n, ((encN n).size : Int), 0) ∧ (n = 3 → k = 0 ∧ v = 0 ∧ m = 0 ∧ ip = 0 ∧ o = 0 ∧ q = 0 ∧ st = false) ∧ (n ≠ 3 → routeOk k v m ip o q st = true ∧ s = encN n ++ routeEnc k v m ip o q st) := by
 rcases noteOk_bd hok with ⟨h1, hr⟩ | ⟨rfl, rfl, rfl, rfl, rfl, rfl, rfl, rfl⟩
 ·have e : s = ByteArray.empty ++ (encN n ++ routeEnc k v m ip o q st) := by
   rw [h]; unfold noteEnc; rw [if_neg (by omega), ByteArray.empty_append]
  have g := (rd_step e hs (by omega)).1
  rw [ByteArray.empty_append] at g e
  exact ⟨g, fun h => by omega, fun _ => ⟨hr, e⟩⟩
 ·have e : s = ByteArray.empty ++ (encN 3 ++ ByteArray.empty) := by
   rw [h]; unfold noteEnc; rw [if_pos rfl, ByteArray.empty_append, ByteArray.append_empty]
  have g := (rd_step e hs (by omega)).1
  rw [ByteArray.empty_append] at g
  exact ⟨g, fun _ => ⟨rfl, rfl, rfl, rfl, rfl, rfl, rfl⟩, fun h => absurd rfl h⟩
theorem s_noteTail (s : ByteArray) (n k v m ip o q : Int) (st : Bool) (j : Nat) (hj : 22 ≤ j) : spec_NoteRead.tail j s n k v m ip o q st = some (if noteBytes n k v m ip o q st = s then (n, k, v, m, ip, o, q, st, 0) else (0, 0, 0, 0, 0, 0, 0, false, 3)) := by
 unfold spec_NoteRead.tail
 rw [s_noteBytes _ _ _ _ _ _ _ _ j (by omega), Option.bind_some]
 split <;> rfl
theorem s_noteRead (s : ByteArray) (hs : (s.size : Int) ≤ 8000) (k : Nat) (hk : 22 ≤ k) : ∃ R, spec_NoteRead.f k s = some R ∧ noteRead s R := by
 unfold spec_NoteRead.f
 rw [if_pos (by omega), s_getNum s 0 (by omega) k hk, Option.bind_some]
 by_cases h0 : (gnum s 0).2.2 = 0
 ·rw [if_pos h0]
  have hne : s ≠ ⟨#[]⟩ := by
   intro h; rw [h, gnum_empty] at h0; exact absurd h0 (by decide)
  by_cases h3 : (gnum s 0).1 = 3
  ·rw [if_pos h3, s_noteTail _ _ _ _ _ _ _ _ _ k hk]
   refine ⟨_, rfl, note_tail hne ?_⟩
   intro n' k' v' m' ip' o' q' st' h1 h2
   obtain ⟨g, ga, _⟩ := note_head h1 h2 hs
   rw [g] at h3 ⊢
   obtain ⟨rfl, rfl, rfl, rfl, rfl, rfl, rfl⟩ := ga h3
   rfl
  ·have ha := gnum_ok h0
   rw [if_neg h3, if_pos (by omega), if_pos (by omega)]
   have hes : ((s.extract (gnum s 0).2.1.toNat s.size).size : Int) ≤ 8000 := by rw [ByteArray.size_extract]; omega
   obtain ⟨R, hR, hRR⟩ := s_routeRead _ hes k hk
   rw [hR, Option.bind_some, s_noteTail _ _ _ _ _ _ _ _ _ k hk]
   refine ⟨_, rfl, note_tail hne ?_⟩
   intro n' k' v' m' ip' o' q' st' h1 h2
   obtain ⟨g, _, gb⟩ := note_head h1 h2 hs
   rw [g] at h3 hRR ⊢
   obtain ⟨hr, e⟩ := gb h3
   have e2 : s.extract (((encN n').size : Int)).toNat s.size = routeEnc k' v' m' ip' o' q' st' := by
    rw [Int.toNat_natCast]
    conv => lhs; rw [e]
    exact ByteArray.extract_append_eq_right rfl ByteArray.size_append
   rw [(hRR (by rw [e2, ← e2]; exact (by rw [g] at hes; exact hes))).1 _ _ _ _ _ _ _ hr e2]
 ·rw [if_neg h0]
  refine ⟨_, rfl, ?_, fun _ => rfl⟩
  intro n' k' v' m' ip' o' q' st' h1 h2
  exfalso
  obtain ⟨g, _⟩ := note_head h1 h2 hs
  rw [g] at h0
  exact h0 rfl
theorem i_noteRead (s : ByteArray) (hs : (s.size : Int) ≤ 8000) (k : Nat) (hk : 22 ≤ k) : ∃ R, impl_NoteRead.f k s = some R ∧ noteRead s R := by
 unfold impl_NoteRead.f
 rw [if_pos (by omega), i_num s 0 false k hk, Option.bind_some]
 simp only
 have hem : s = ⟨#[]⟩ → noteRead s (0, 0, 0, 0, 0, 0, 0, false, 3) := by
  rintro rfl
  refine ⟨?_, fun _ => rfl⟩
  intro n' k' v' m' ip' o' q' st' h1 h2
  exfalso
  obtain ⟨g, _⟩ := note_head h1 h2 hs
  rw [gnum_empty] at g
  injection g with _ g; injection g with _ g; exact absurd g (by decide)
 by_cases h3 : (gnum s 0).1 = 3
 ·rw [if_pos h3]
  by_cases he : s = ⟨#[]⟩
  ·rw [if_pos he]; exact ⟨_, rfl, hem he⟩
  ·rw [if_neg he, i_noteBytes _ _ _ _ _ _ _ _ k (by omega), Option.bind_some]
   have := note_tail (s := s) (n := (gnum s 0).1) (k := 0) (v := 0) (m := 0) (ip := 0) (o := 0) (q := 0) (st := false) he (by
    intro n' k' v' m' ip' o' q' st' h1 h2
    obtain ⟨g, ga, _⟩ := note_head h1 h2 hs
    rw [g] at h3 ⊢
    obtain ⟨rfl, rfl, rfl, rfl, rfl, rfl, rfl⟩ := ga h3
    rfl)
   refine ⟨_, ?_, this⟩
   split <;> rfl
 ·rw [if_neg h3]
  obtain ⟨X, hX, hP⟩ := i_route s (gnum s 0).2.1 (false || decide ((gnum s 0).2.2 ≠ 0)) k hk
  rw [hX, Option.bind_some]
  by_cases he : s = ⟨#[]⟩
  ·rw [if_pos he]; exact ⟨_, rfl, hem he⟩
  ·rw [if_neg he, i_noteBytes _ _ _ _ _ _ _ _ k (by omega), Option.bind_some]
   have := note_tail (s := s) (n := (gnum s 0).1) (k := X.1) (v := X.2.1) (m := X.2.2.1) (ip := X.2.2.2.1) (o := X.2.2.2.2.1) (q := X.2.2.2.2.2.1) (st := X.2.2.2.2.2.2.1) he (by
    intro n' k' v' m' ip' o' q' st' h1 h2
    obtain ⟨g, _, gb⟩ := note_head h1 h2 hs
    rw [g] at h3 hP ⊢
    obtain ⟨hr, e⟩ := gb h3
    rw [hP (encN n') _ _ _ _ _ _ _ rfl hr e hs])
   refine ⟨_, ?_, this⟩
   split <;> rfl

theorem getD_at {α : Type} {xs : List α} {i : Nat} (z : α) (h : i < xs.length) : xs.getD ((i : Int)).toNat z = xs[i] := by
 rw [Int.toNat_natCast, List.getD_eq_getElem?_getD, List.getElem?_eq_getElem h, Option.getD_some]

def rtOk (r : S24) : Bool := routeOk r.f0 r.f1 r.f2 r.f3 r.f4 r.f5 r.f6
def rtNote (r : S24) : ByteArray := encN 1 ++ routeEnc r.f0 r.f1 r.f2 r.f3 r.f4 r.f5 r.f6
def dumpL (xs : List S24) : List ByteArray := xs.map rtNote ++ [encN 3]
def dumpOf (xs : List S24) : List ByteArray := if (xs.length : Int) > 60 then [] else if xs.all rtOk then dumpL xs else []
theorem s_l04put {r : S24} (h : rtOk r = true) (k : Nat) (hk : 11 ≤ k) : spec_l04Bytes.f k 1 r.f0 r.f1 r.f2 r.f3 r.f4 r.f5 r.f6 = some (rtNote r) := by
 unfold spec_l04Bytes.f
 have z1 := encN_size 1; have z2 := routeEnc_size r.f0 r.f1 r.f2 r.f3 r.f4 r.f5 r.f6
 rw [if_neg (by omega), s_putNum (by omega) k (by omega), s_l03Bytes h k hk]
 simp only [Option.bind_some]
 rw [if_pos (by omega)]; rfl
theorem s_l04end (k : Nat) (hk : 11 ≤ k) : spec_l04Bytes.f k 3 0 0 0 0 0 0 false = some (encN 3) := by
 unfold spec_l04Bytes.f
 rw [if_pos rfl, s_putNum (by omega) k (by omega)]; rfl
theorem i_put {r : S24} (h : rtOk r = true) (k : Nat) (hk : 11 ≤ k) : impl_NoteBytes.f k 1 r.f0 r.f1 r.f2 r.f3 r.f4 r.f5 r.f6 = some (rtNote r) := by
 rw [i_noteBytes _ _ _ _ _ _ _ _ k hk]
 unfold noteBytes noteOk noteEnc
 rw [if_pos rfl, if_pos (show routeOk r.f0 r.f1 r.f2 r.f3 r.f4 r.f5 r.f6 = true from h), if_neg (by omega)]; rfl
theorem i_end (k : Nat) (hk : 11 ≤ k) : impl_NoteBytes.f k 3 0 0 0 0 0 0 false = some (encN 3) := by
 rw [i_noteBytes _ _ _ _ _ _ _ _ k hk]; rfl
theorem s_dump_l0 (xs : List S24) (hv : xs.all rtOk = true) (hx : xs.length ≤ 60) : ∀ (d k i : Nat) (acc : List ByteArray), xs.length = i + d → d + 11 < k → acc.length = i → spec_l04Dump.l0 k xs acc (i : Int) = some (acc ++ dumpL (xs.drop i)) := by
 intro d
 induction d with
 | zero =>
  intro k i acc h1 hk hl
  obtain ⟨k, rfl⟩ : ∃ q, k = q + 1 := ⟨k - 1, by omega⟩
  rw [spec_l04Dump.l0, if_neg (by omega), s_l04end k (by omega), Option.bind_some, if_pos (by omega), List.drop_eq_nil_of_le (by omega)]; rfl
 | succ d ih =>
  intro k i acc h1 hk hl
  obtain ⟨k, rfl⟩ : ∃ q, k = q + 1 := ⟨k - 1, by omega⟩
  have w : wrap64 ((i : Int) + 1) = ((i + 1 : Nat) : Int) := wrap64_id (by omega) (by omega)
  have hi : i < xs.length := by omega
  have hrd : rd_T24 xs (i : Int) = xs[i] := getD_at _ hi
  have hr : rtOk xs[i] = true := List.all_eq_true.1 hv _ (List.getElem_mem hi)
  rw [spec_l04Dump.l0, if_pos (by omega), if_pos (by omega), hrd, s_l04put hr k (by omega), Option.bind_some, if_pos (by omega), w, ih k (i + 1) _ (by omega) (by omega) (by simp; omega), List.drop_eq_getElem_cons hi]
  unfold dumpL
  simp only [List.map_cons, List.append_assoc, List.cons_append, List.nil_append]
theorem s_dumpv_l0 (xs : List S24) (hx : xs.length ≤ 60) : ∀ (d k i : Nat), xs.length = i + d → d + xs.length + 13 < k → (xs.take i).all rtOk = true → spec_DumpOf.l0 k xs (i : Int) = some (if xs.all rtOk then dumpL xs else []) := by
 intro d
 induction d with
 | zero =>
  intro k i h1 hk hv
  obtain ⟨k, rfl⟩ : ∃ q, k = q + 1 := ⟨k - 1, by omega⟩
  rw [List.take_of_length_le (by omega)] at hv
  rw [spec_DumpOf.l0, if_neg (by omega)]
  unfold spec_l04Dump.f
  have e := s_dump_l0 xs hv hx xs.length k 0 [] (by omega) (by omega) rfl
  rw [show ((0 : Nat) : Int) = 0 from rfl] at e
  rw [e, Option.bind_some, if_pos hv]; rfl
 | succ d ih =>
  intro k i h1 hk hv
  obtain ⟨k, rfl⟩ : ∃ q, k = q + 2 := ⟨k - 2, by omega⟩
  have w : wrap64 ((i : Int) + 1) = ((i + 1 : Nat) : Int) := wrap64_id (by omega) (by omega)
  have hi : i < xs.length := by omega
  have hrd : rd_T24 xs (i : Int) = xs[i] := getD_at _ hi
  rw [spec_DumpOf.l0, if_pos (by omega), if_pos (by omega), hrd, s_routeRight, Option.bind_some, w]
  rw [show routeOk xs[i].f0 xs[i].f1 xs[i].f2 xs[i].f3 xs[i].f4 xs[i].f5 xs[i].f6 = rtOk xs[i] from rfl]
  by_cases hr : rtOk xs[i] = true
  ·rw [if_pos hr, ih (k + 1) (i + 1) (by omega) (by omega) (by rw [List.take_succ_eq_append_getElem hi, List.all_append, hv]; simp [hr])]
  ·rw [if_neg hr, if_neg (fun hh => hr (List.all_eq_true.1 hh _ (List.getElem_mem hi)))]
theorem s_dumpOf (k : Nat) (xs : List S24) (hk : 150 ≤ k) : spec_DumpOf.f k xs = some (dumpOf xs) := by
 unfold spec_DumpOf.f dumpOf
 by_cases h : (xs.length : Int) > 60
 ·rw [if_pos h, if_pos h]
 ·rw [if_neg h, if_neg h]
  exact s_dumpv_l0 xs (by omega) xs.length k 0 (by omega) (by omega) (by simp)
theorem i_dump_l0 (xs : List S24) (hx : xs.length ≤ 60) : ∀ (d k i : Nat) (acc : List ByteArray), xs.length = i + d → d + 12 < k → acc.length = i → impl_DumpOf.l0 k acc xs (xs.length : Int) (i : Int) = some (if (xs.drop i).all rtOk then acc ++ dumpL (xs.drop i) else []) := by
 intro d
 induction d with
 | zero =>
  intro k i acc h1 hk hl
  obtain ⟨k, rfl⟩ : ∃ q, k = q + 1 := ⟨k - 1, by omega⟩
  rw [impl_DumpOf.l0, if_neg (by omega), i_end k (by omega), Option.bind_some, if_pos (by omega), List.drop_eq_nil_of_le (by omega)]; rfl
 | succ d ih =>
  intro k i acc h1 hk hl
  obtain ⟨k, rfl⟩ : ∃ q, k = q + 2 := ⟨k - 2, by omega⟩
  have w : wrap64 ((i : Int) + 1) = ((i + 1 : Nat) : Int) := wrap64_id (by omega) (by omega)
  have hi : i < xs.length := by omega
  have hrd : rd_T24 xs (i : Int) = xs[i] := getD_at _ hi
  rw [impl_DumpOf.l0, if_pos (by omega), if_pos (by omega), if_pos (by omega), hrd, i_routeRight, Option.bind_some, List.drop_eq_getElem_cons hi]
  rw [show routeOk xs[i].f0 xs[i].f1 xs[i].f2 xs[i].f3 xs[i].f4 xs[i].f5 xs[i].f6 = rtOk xs[i] from rfl]
  by_cases hr : rtOk xs[i] = true
  ·rw [if_pos hr, i_put hr (k + 1) (by omega), Option.bind_some, if_pos (by omega), w, ih (k + 1) (i + 1) _ (by omega) (by omega) (by simp; omega)]
   rw [List.all_cons, hr, Bool.true_and]
   split
   ·unfold dumpL
    simp only [List.map_cons, List.append_assoc, List.cons_append, List.nil_append]
   ·rfl
  ·rw [if_neg hr, List.all_cons, Bool.eq_false_iff.2 hr]; simp
theorem i_dumpOf (k : Nat) (xs : List S24) (hk : 150 ≤ k) : impl_DumpOf.f k xs = some (dumpOf xs) := by
 unfold impl_DumpOf.f dumpOf
 by_cases h : (xs.length : Int) > 60
 ·rw [if_pos h, if_pos h]
 ·rw [if_neg h, if_neg h]
  have e := i_dump_l0 xs (by omega) xs.length k 0 [] (by omega) (by omega) rfl
  rw [List.drop_zero] at e
  exact e
theorem dumpOf_len (xs : List S24) : (dumpOf xs).length ≤ 61 := by
 unfold dumpOf dumpL
 split
 ·simp
 ·split
  ·simp; omega
  ·simp


theorem encN_small {n : Int} (h : 0 ≤ n ∧ n ≤ 63) : (encN n).size = 1 := by
 have hz := zz_cast n
 rw [if_neg (by omega)] at hz
 unfold encN
 rw [str_size, vi, if_pos (by omega)]; rfl
theorem noteEnc_small {n k v m ip o q : Int} {st : Bool} (h : noteOk n k v m ip o q st = true) : (noteEnc n k v m ip o q st).size ≤ 60 := by
 unfold noteEnc
 rcases noteOk_bd h with ⟨h1, hr⟩ | ⟨rfl, _⟩
 ·obtain ⟨hk, hv, hm, hi, ho, hq⟩ := routeOk_bd hr
  rw [if_neg (by omega)]
  have z0 := encN_small (n := n) (by omega)
  have z1 := encN_small (n := k) (by omega)
  have z5 := encN_small (n := o) (by omega)
  have z7 := encN_small (n := (if st = true then 1 else 0)) (by split <;> omega)
  have z2 := encN_size v; have z3 := encN_size m; have z4 := encN_size ip; have z6 := encN_size q
  unfold routeEnc
  simp only [ByteArray.size_append]
  omega
 ·rw [if_pos rfl]
  have := encN_small (n := 3) (by omega)
  omega
theorem noteBytes_small (n k v m ip o q : Int) (st : Bool) : (noteBytes n k v m ip o q st).size ≤ 60 := by
 unfold noteBytes
 split
 ·exact noteEnc_small (by assumption)
 ·exact Nat.zero_le _
theorem nr_both (s : ByteArray) (k : Nat) (hk : 22 ≤ k) : ∃ n a b c d e f g x, spec_NoteRead.f k s = some (n, a, b, c, d, e, f, g, x) ∧ impl_NoteRead.f k s = some (n, a, b, c, d, e, f, g, x) ∧ (x = 0 → noteBytes n a b c d e f g = s) := by
 by_cases h2 : (s.size : Int) ≤ 8000
 ·obtain ⟨R, e, h⟩ := s_noteRead s h2 k hk
  obtain ⟨R', e', h'⟩ := i_noteRead s h2 k hk
  have hR := noteRead_eq h h'
  subst hR
  obtain ⟨n, a, b, c, d, f, g, st, x⟩ := R
  refine ⟨_, _, _, _, _, _, _, _, _, e, e', fun hx => ?_⟩
  subst hx
  by_cases hq : ∃ n k v m ip o q st, noteOk n k v m ip o q st = true ∧ s = noteEnc n k v m ip o q st
  ·obtain ⟨n', k', v', m', ip', o', q', st', h1, h2⟩ := hq
   have := h.1 _ _ _ _ _ _ _ _ h1 h2
   simp only [Prod.mk.injEq] at this
   obtain ⟨rfl, rfl, rfl, rfl, rfl, rfl, rfl, rfl, _⟩ := this
   unfold noteBytes
   rw [if_pos h1, h2]
  ·have := h.2 hq
   simp only [Prod.mk.injEq] at this
   exact absurd this.2.2.2.2.2.2.2.2 (by decide)
 ·have e : spec_NoteRead.f k s = some (0, 0, 0, 0, 0, 0, 0, false, 2) := by unfold spec_NoteRead.f; rw [if_neg (by omega)]
  have e' : impl_NoteRead.f k s = some (0, 0, 0, 0, 0, 0, 0, false, 2) := by unfold impl_NoteRead.f; rw [if_neg (by omega)]
  exact ⟨_, _, _, _, _, _, _, _, _, e, e', fun h => absurd h (by decide)⟩
theorem nr_enc {n a b c d e f : Int} {g : Bool} (h : noteOk n a b c d e f g = true) (k : Nat) (hk : 22 ≤ k) : impl_NoteRead.f k (noteEnc n a b c d e f g) = some (n, a, b, c, d, e, f, g, 0) := by
 have hz := noteEnc_small h
 obtain ⟨R, e1, h1⟩ := i_noteRead (noteEnc n a b c d e f g) (by omega) k hk
 rw [e1, h1.1 _ _ _ _ _ _ _ _ h rfl]
theorem rtNote_enc (r : S24) : rtNote r = noteEnc 1 r.f0 r.f1 r.f2 r.f3 r.f4 r.f5 r.f6 := by
 unfold rtNote noteEnc; rw [if_neg (by omega)]
theorem texts_refl (xs : List ByteArray) (hx : xs.length ≤ 100) : ∀ (d k i : Nat), xs.length = i + d → d < k → laws_lwTexts.l0 k xs xs (i : Int) = some true := by
 intro d
 induction d with
 | zero =>
  intro k i h1 hk
  obtain ⟨k, rfl⟩ : ∃ q, k = q + 1 := ⟨k - 1, by omega⟩
  rw [laws_lwTexts.l0, if_neg (by omega)]
 | succ d ih =>
  intro k i h1 hk
  obtain ⟨k, rfl⟩ : ∃ q, k = q + 1 := ⟨k - 1, by omega⟩
  have w : wrap64 ((i : Int) + 1) = ((i + 1 : Nat) : Int) := wrap64_id (by omega) (by omega)
  rw [laws_lwTexts.l0, if_pos (by omega), if_pos (by omega), if_pos (by omega), if_pos rfl, w]
  exact ih k (i + 1) (by omega) (by omega)
theorem dumpL_at (xs : List S24) (i : Nat) (hi : i < xs.length) : rdOf ByteArray.empty (dumpL xs) (i : Int) = rtNote xs[i] := by
 unfold rdOf dumpL
 rw [List.getD_eq_getElem?_getD, Int.toNat_natCast, List.getElem?_append_left (by rw [List.length_map]; exact hi), List.getElem?_map, List.getElem?_eq_getElem hi]; rfl
theorem dumpL_end (xs : List S24) : rdOf ByteArray.empty (dumpL xs) (xs.length : Int) = encN 3 := by
 unfold rdOf dumpL
 rw [List.getD_eq_getElem?_getD, Int.toNat_natCast, List.getElem?_append_right (by rw [List.length_map]; exact Nat.le_refl _), List.length_map, Nat.sub_self]; rfl
theorem note_loop (xs : List S24) (hv : xs.all rtOk = true) (hx : xs.length ≤ 60) : ∀ (d k i : Nat), xs.length = i + d → d + 40 < k → laws_FnNote.l0 k xs (dumpL xs) (i : Int) = some true := by
 have hd : (dumpL xs).length = xs.length + 1 := by unfold dumpL; simp
 intro d
 induction d with
 | zero =>
  intro k i h1 hk
  obtain ⟨k, rfl⟩ : ∃ q, k = q + 1 := ⟨k - 1, by omega⟩
  have w : wrap64 ((xs.length : Int) + 1) = ((xs.length + 1 : Nat) : Int) := wrap64_id (by omega) (by omega)
  have h3 : noteOk 3 0 0 0 0 0 0 false = true := rfl
  have e3 : encN 3 = noteEnc 3 0 0 0 0 0 0 false := rfl
  rw [laws_FnNote.l0, if_neg (by omega), w, hd, if_pos rfl, if_pos (by omega), if_pos (by omega), dumpL_end, e3, nr_enc h3 k (by omega)]
  rfl
 | succ d ih =>
  intro k i h1 hk
  obtain ⟨k, rfl⟩ : ∃ q, k = q + 1 := ⟨k - 1, by omega⟩
  have hi : i < xs.length := by omega
  have w : wrap64 ((i : Int) + 1) = ((i + 1 : Nat) : Int) := wrap64_id (by omega) (by omega)
  have hr : rtOk xs[i] = true := List.all_eq_true.1 hv _ (List.getElem_mem hi)
  have hn : noteOk 1 xs[i].f0 xs[i].f1 xs[i].f2 xs[i].f3 xs[i].f4 xs[i].f5 xs[i].f6 = true := by unfold noteOk; rw [if_pos rfl]; exact hr
  have hrd : rd_T24 xs (i : Int) = xs[i] := getD_at _ hi
  rw [laws_FnNote.l0, if_pos (by omega), if_pos (by omega), if_pos (by omega), dumpL_at xs i hi, rtNote_enc, nr_enc hn k (by omega), Option.bind_some, hrd, if_neg (by simp), w]
  exact ih k (i + 1) (by omega) (by omega)
theorem dd_l1 {l : List Int} (hl : (l.length : Int) ≤ 1048576) : ∀ (d k : Nat) (xs : List S24) (i m sz : Int), 0 ≤ i → i ≤ (l.length : Int) → xs.length + d = 61 → d < k → ∃ r, spec_DrawDumpOf.l1 k xs l i m sz = some r := by
 intro d
 induction d with
 | zero =>
  intro k xs i m sz h0 h1 hd hk
  obtain ⟨k, rfl⟩ : ∃ q, k = q + 1 := ⟨k - 1, by omega⟩
  obtain ⟨r, i1, m1, e1, r0, r1, a1, a2⟩ := n_ok (m := m) (sz := sz) (most := 2) h0 h1 hl (by omega)
  rw [spec_DrawDumpOf.l1]
  simp only [e1, Option.bind_some]
  rw [wrap64_id (by omega) (by omega), if_neg (by omega)]
  exact ⟨_, rfl⟩
 | succ d ih =>
  intro k xs i m sz h0 h1 hd hk
  obtain ⟨k, rfl⟩ : ∃ q, k = q + 1 := ⟨k - 1, by omega⟩
  obtain ⟨r, i1, m1, e1, r0, r1, a1, a2⟩ := n_ok (m := m) (sz := sz) (most := 2) h0 h1 hl (by omega)
  rw [spec_DrawDumpOf.l1]
  simp only [e1, Option.bind_some]
  rw [wrap64_id (by omega) (by omega)]
  by_cases c : (xs.length : Int) < 60 + r
  ·rw [if_pos c, if_pos (by omega)]
   exact ih k _ _ _ _ a1 a2 (by simp; omega) (by omega)
  ·rw [if_neg c]; exact ⟨_, rfl⟩
theorem dd_l0 {l : List Int} (hl : (l.length : Int) ≤ 1048576) : ∀ (d k : Nat) (xs : List S24) (i m sz : Int), 0 ≤ i → i ≤ (l.length : Int) → xs.length + d ≤ 10 → d + 70 < k → ∃ r, spec_DrawDumpOf.l0 k xs (d : Int) l i m sz = some r := by
 intro d
 induction d with
 | zero =>
  intro k xs i m sz h0 h1 hd hk
  obtain ⟨k, rfl⟩ : ∃ q, k = q + 1 := ⟨k - 1, by omega⟩
  obtain ⟨q, i1, m1, e1, a1, a2⟩ := one_ok (m := m) (sz := sz) (most := 20) h0 h1 hl (by omega)
  rw [spec_DrawDumpOf.l0, if_neg (by omega), e1, Option.bind_some]
  cases q with
  | true => rw [if_pos rfl]; exact dd_l1 hl 61 k [] _ _ _ a1 a2 rfl (by omega)
  | false => rw [if_neg (by simp)]; exact ⟨_, rfl⟩
 | succ d ih =>
  intro k xs i m sz h0 h1 hd hk
  obtain ⟨k, rfl⟩ : ∃ q, k = q + 1 := ⟨k - 1, by omega⟩
  obtain ⟨q1, q2, q3, q4, q5, q6, q7, i2, m2, e2, b1, b2⟩ := route_ok (m := m) (sz := sz) h0 h1 hl k (by omega)
  rw [spec_DrawDumpOf.l0, if_pos (by omega)]
  simp only [e2, Option.bind_some]
  rw [if_pos (by omega), wrap64_id (by omega) (by omega), show (((d + 1 : Nat) : Int) - 1) = (d : Int) by omega]
  exact ih k _ _ _ _ b1 b2 (by simp; omega) (by omega)
theorem drawdump_ok {l : List Int} (hl : (l.length : Int) ≤ 1048576) (k : Nat) (hk : 90 ≤ k) : ∃ r, spec_DrawDumpOf.f k l = some r := by
 obtain ⟨m, z, e⟩ := source_ok l k (by omega)
 obtain ⟨r, i1, m1, e1, r0, r1, a1, a2⟩ := n_ok (l := l) (i := 0) (m := m) (sz := z) (most := 6) (by omega) (by omega) hl (by omega)
 unfold spec_DrawDumpOf.f
 rw [e, Option.bind_some]
 simp only [e1, Option.bind_some]
 obtain ⟨d, rfl⟩ := Int.eq_ofNat_of_zero_le r0
 exact dd_l0 hl d k [] _ _ _ a1 a2 (by simp; omega) (by omega)
theorem drawnr_ok {l : List Int} (hl : (l.length : Int) ≤ 1048576) (k : Nat) (hk : 90 ≤ k) : ∃ u, spec_DrawNoteRead.f k l = some u := by
 obtain ⟨m, z, e⟩ := source_ok l k (by omega)
 obtain ⟨n, a, b, c, d, f, g, st, i1, m1, e1, a1, a2⟩ := note_ok (l := l) (i := 0) (m := m) (sz := z) (by omega) (by omega) hl k (by omega)
 obtain ⟨r, i2, m2, e2, r0, r1, b1, b2⟩ := n_ok (m := m1) (sz := z) (most := 4) a1 a2 hl (by omega)
 unfold spec_DrawNoteRead.f
 rw [e, Option.bind_some]
 simp only [e1, Option.bind_some]
 rw [s_noteBytes _ _ _ _ _ _ _ _ k (by omega), Option.bind_some]
 have hz := noteBytes_small n a b c d f g st
 simp only [e2, Option.bind_some]
 by_cases c0 : r = 0
 ·rw [if_pos c0]
  obtain ⟨u, i3, m3, e3, _⟩ := spoil_ok (m := m2) (sz := z) b1 b2 hl k (by omega) (noteBytes n a b c d f g st) (by omega)
  rw [e3]; exact ⟨_, rfl⟩
 rw [if_neg c0]
 by_cases c1 : r = 1
 ·rw [if_pos c1, wrap64_id (by omega) (by omega)]
  obtain ⟨q, i3, m3, e3, q0, q1, _⟩ := nle_ok (m := m2) (sz := z) (most := ((noteBytes n a b c d f g st).size : Int) + 1) b1 b2 hl (by omega)
  simp only [e3, Option.bind_some]
  rw [if_pos q0, if_pos (by omega)]
  exact ⟨_, rfl⟩
 ·rw [if_neg c1]; exact ⟨_, rfl⟩
theorem note_end (k : Nat) (hk : 200 ≤ k) (xs : List S24) : laws_FnNote.j2 (k + 1) xs (dumpOf xs) false = some true := by
 rw [laws_FnNote.j2, if_neg (by simp)]
 by_cases h : ((dumpOf xs).length : Int) = 0
 ·rw [if_pos h]
 ·rw [if_neg h]
  have hx : ¬ (xs.length : Int) > 60 := by
   intro c; apply h; unfold dumpOf; rw [if_pos c]; rfl
  have hv : xs.all rtOk = true := by
   cases hq : xs.all rtOk with
   | true => rfl
   | false => exfalso; apply h; unfold dumpOf; rw [if_neg hx, hq, if_neg (by simp)]; rfl
  have e : dumpOf xs = dumpL xs := by unfold dumpOf; rw [if_neg hx, if_pos hv]
  rw [e]
  exact note_loop xs hv (by omega) xs.length k 0 (by omega) (by omega)
theorem note_mid (k : Nat) (hk : 300 ≤ k) (u : ByteArray) (xs : List S24) (n a b c d e f : Int) (g : Bool) (n' a' b' c' d' e' f' : Int) (g' : Bool) (x : Int) (hx : x = 0 → noteBytes n' a' b' c' d' e' f' g' = u) :
  laws_FnNote.j1 (k + 1 + 1) (noteBytes n a b c d e f g) u xs (dumpOf xs) false n a b c d e f g n' a' b' c' d' e' f' g' x = some true := by
 have key : (if (noteBytes n a b c d e f g).toList = ([] : List UInt8) then (laws_FnNote.j2 (k + 1) xs (dumpOf xs) false) else ((impl_NoteRead.f (k + 1) (noteBytes n a b c d e f g)).bind fun bt608 => (if ((!(bt608.1 == n) || ((!(bt608.2.1 == a) || (!(bt608.2.2.1 == b) || (!(bt608.2.2.2.1 == c) || (!(bt608.2.2.2.2.1 == d) || (!(bt608.2.2.2.2.2.1 == e) || (!(bt608.2.2.2.2.2.2.1 == f) || (!(bt608.2.2.2.2.2.2.2.1 == g)))))))))) || (!(bt608.2.2.2.2.2.2.2.2 == 0))) = true then (laws_FnNote.j2 (k + 1) xs (dumpOf xs) true) else (laws_FnNote.j2 (k + 1) xs (dumpOf xs) (decide (((noteBytes n a b c d e f g).size : Int) > 60)))))) = some true := by
  have hz := noteBytes_small n a b c d e f g
  by_cases h : (noteBytes n a b c d e f g).toList = ([] : List UInt8)
  ·rw [if_pos h]; exact note_end k (by omega) xs
  ·rw [if_neg h]
   have hok : noteOk n a b c d e f g = true := by
    cases hq : noteOk n a b c d e f g with
    | true => rfl
    | false => exfalso; apply h; unfold noteBytes; rw [hq, if_neg (by simp), ByteArray.toList_eq]
   have eb : noteBytes n a b c d e f g = noteEnc n a b c d e f g := by unfold noteBytes; rw [if_pos hok]
   have er : impl_NoteRead.f (k + 1) (noteBytes n a b c d e f g) = some (n, a, b, c, d, e, f, g, 0) := by rw [eb]; exact nr_enc hok (k + 1) (by omega)
   rw [er, Option.bind_some, if_neg (by simp), decide_eq_false (by omega)]
   exact note_end k (by omega) xs
 rw [laws_FnNote.j1, if_neg (by simp)]
 by_cases h : x = 0
 ·rw [if_pos h, i_noteBytes _ _ _ _ _ _ _ _ (k + 1) (by omega), Option.bind_some, if_pos (by rw [hx h])]
  exact key
 ·rw [if_neg h]; exact key
theorem FnNote : laws_FnNote.Pure := by
 intro l0 l1 _ _ _ _ _ _
 refine ⟨1000 + 1 + 1 + 1, ?_⟩
 unfold laws_FnNote.f
 by_cases h0 : (l0.length : Int) > 1048576
 ·rw [if_pos h0, laws_FnNote.j0, if_pos rfl]
 rw [if_neg h0]
 by_cases h1 : (l1.length : Int) > 1048576
 ·rw [decide_eq_true h1, laws_FnNote.j0, if_pos rfl]
 rw [decide_eq_false h1, laws_FnNote.j0, if_neg (by simp)]
 obtain ⟨m, z, e⟩ := source_ok l0 (1000 + 1 + 1) (by omega)
 obtain ⟨n, a, b, c, d, f, g, st, i1, m1, e1, _⟩ := note_ok (l := l0) (i := 0) (m := m) (sz := z) (by omega) (by omega) (by omega) (1000 + 1 + 1) (by omega)
 have en : spec_DrawNoteBytes.f (1000 + 1 + 1) l0 = some (n, a, b, c, d, f, g, st) := by
  unfold spec_DrawNoteBytes.f
  rw [e, Option.bind_some]
  simp only [e1, Option.bind_some]
 obtain ⟨u, eu⟩ := drawnr_ok (l := l1) (by omega) (1000 + 1 + 1) (by omega)
 obtain ⟨xs, ex⟩ := drawdump_ok (l := l1) (by omega) (1000 + 1 + 1) (by omega)
 obtain ⟨n', a', b', c', d', f', g', st', x, r1, r2, hx⟩ := nr_both u (1000 + 1 + 1) (by omega)
 simp only [en, eu, ex, r1, r2, Option.bind_some]
 rw [i_noteBytes _ _ _ _ _ _ _ _ (1000 + 1 + 1) (by omega), s_noteBytes _ _ _ _ _ _ _ _ (1000 + 1 + 1) (by omega), i_dumpOf _ _ (by omega), s_dumpOf _ _ (by omega)]
 simp only [Option.bind_some, if_true]
 rw [if_neg (by simp)]
 have et : laws_lwTexts.f (1000 + 1 + 1) (dumpOf xs) (dumpOf xs) = some true := by
  have hl := dumpOf_len xs
  unfold laws_lwTexts.f
  rw [if_pos rfl]
  exact texts_refl (dumpOf xs) (by omega) (dumpOf xs).length _ 0 (by omega) (by omega)
 simp only [et, Option.bind_some, if_true]
 rw [i_noteRight, s_noteRight]
 simp only [Option.bind_some]
 rw [show ∀ q : Bool, (q != q) = false from fun q => by simp]
 exact note_mid 1000 (by omega) u xs n a b c d f g st n' a' b' c' d' f' g' st' x hx

end Go.Proofs.Ytbanbmkfdkbfiaa.Pure
