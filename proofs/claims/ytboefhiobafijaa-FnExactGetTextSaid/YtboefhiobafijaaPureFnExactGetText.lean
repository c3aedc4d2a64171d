/- The plain law of FnExactGetText: for all arguments that fit the guards its printed function answers true. -/
import Derived.Test.YtboefhiobafijaaPFnExactGetTextx
set_option linter.unusedVariables false
set_option linter.unusedSimpArgs false
namespace Go.Proofs.Ytboefhiobafijaa.Pure
open Go.RowKit Go.Proofs.Ytboefhiobafijaa.PFnExactGetText Go.Proofs.YtboefhiobafijaaW.PrintWords Go.Proofs.YtboefhiobafijaaW.PrintLast Go.Proofs.YtboefhiobafijaaW.PrintMore

theorem bits_xor_nat (k : IntKind) (a b : Nat) : Go.bits .xor k a b = k.wrap (((a % 2 ^ k.bits) ^^^ (b % 2 ^ k.bits) : Nat) : Int) := by
  simp only [Go.bits, BitVec.ofInt_natCast, BitVec.toNat_xor, BitVec.toNat_ofNat]
theorem bits_or_nat (k : IntKind) (a b : Nat) : Go.bits .or k a b = k.wrap (((a % 2 ^ k.bits) ||| (b % 2 ^ k.bits) : Nat) : Int) := by
  simp only [Go.bits, BitVec.ofInt_natCast, BitVec.toNat_or, BitVec.toNat_ofNat]
theorem bits_and_nat (k : IntKind) (a b : Nat) : Go.bits .and k a b = k.wrap (((a % 2 ^ k.bits) &&& (b % 2 ^ k.bits) : Nat) : Int) := by
  simp only [Go.bits, BitVec.ofInt_natCast, BitVec.toNat_and, BitVec.toNat_ofNat]
theorem wrap_u64 (n : Int) : IntKind.u64.wrap n = n % 18446744073709551616 := by simp [IntKind.wrap, IntKind.bits, IntKind.signed]
theorem wf_i64 {n : Int} (h : (Lit.int .i64 n).wf = true) : -9223372036854775808 ≤ n ∧ n ≤ 9223372036854775807 := by
  simp [Lit.wf, IntKind.signed, IntKind.bits, IntKind.min, IntKind.max] at h
  omega
theorem xor_ones (x : Nat) (h : x < 18446744073709551616) : x ^^^ 18446744073709551615 = 18446744073709551615 - x := by
  have e := BitVec.toNat_not (x := BitVec.ofNat 64 x)
  rw [← BitVec.xor_allOnes, BitVec.toNat_xor, BitVec.toNat_allOnes, BitVec.toNat_ofNat] at e
  rw [Nat.mod_eq_of_lt (by simpa using h)] at e
  simpa using e
theorem wrap64_id {x : Int} (h0 : -9223372036854775808 ≤ x) (h1 : x ≤ 9223372036854775807) : wrap64 x = x := by unfold wrap64; omega
theorem u64_id {x : Int} (h0 : 0 ≤ x) (h1 : x < 18446744073709551616) : IntKind.u64.wrap x = x := by rw [wrap_u64]; omega
theorem tmod_nat (a b : Nat) : Int.tmod (a : Int) (b : Int) = ((a % b : Nat) : Int) := by rw [Int.tmod_eq_emod_of_nonneg (by omega)]; simp
theorem tdiv_nat (a b : Nat) : Int.tdiv (a : Int) (b : Int) = ((a / b : Nat) : Int) := by rw [Int.tdiv_eq_ediv_of_nonneg (by omega)]; simp

def unzz (u : Nat) : Int := if u % 2 = 1 then -((u / 2 : Nat) : Int) - 1 else ((u / 2 : Nat) : Int)
def gdec : Nat → ByteArray → Int → Nat → Nat → Int × Int × Int
  | 0, _, _, _, _ => (0, 0, 3)
  | f + 1, s, a, i, u =>
    if a + i ≥ (s.size : Int) then (0, 0, 4)
    else if i = 9 ∧ bt s (a + i) > 1 then (0, 0, 3)
    else if bt s (a + i) ≥ 128 then gdec f s a (i + 1) (u + (bt s (a + i)).toNat % 128 * 2 ^ (7 * i))
    else if bt s (a + i) = 0 ∧ i > 0 then (0, 0, 3)
    else (unzz (u + (bt s (a + i)).toNat % 128 * 2 ^ (7 * i)), a + i + 1, 0)
def gnum (s : ByteArray) (a : Int) : Int × Int × Int := if (s.size : Int) > 8000 then (0, 0, 2) else if a < 0 then (0, 0, 1) else gdec 10 s a 0 0
theorem pow7 (i : Nat) (hi : i ≤ 9) : (2 : Nat) ^ (7 * i) ≤ 9223372036854775808 := by
  have := Nat.pow_le_pow_right (n := 2) (by decide) (show 7 * i ≤ 63 by omega)
  rwa [show (2 : Nat) ^ 63 = 9223372036854775808 from by decide] at this
theorem pow7s (i : Nat) : (2 : Nat) ^ (7 * (i + 1)) = 128 * 2 ^ (7 * i) := by
  rw [Nat.mul_add, Nat.pow_add, Nat.mul_comm]
/-- One more group fits. -/
theorem group_lt {u c i : Nat} (hi : i ≤ 9) (hu : u < 2 ^ (7 * i)) (hc : i = 9 → c ≤ 1) : c % 128 * 2 ^ (7 * i) < 18446744073709551616 ∧ u + c % 128 * 2 ^ (7 * i) < 18446744073709551616 ∧ (i < 9 → u + c % 128 * 2 ^ (7 * i) < 2 ^ (7 * (i + 1))) := by
  have hm : c % 128 < 128 := Nat.mod_lt _ (by decide)
  rcases Nat.lt_or_ge i 9 with h | h
  · have h8 : (2 : Nat) ^ (7 * i) ≤ 72057594037927936 := by
      have := Nat.pow_le_pow_right (n := 2) (by decide) (show 7 * i ≤ 56 by omega)
      rwa [show (2 : Nat) ^ 56 = 72057594037927936 from by decide] at this
    have hs := pow7s i
    rw [hs]
    have h1 : c % 128 * 2 ^ (7 * i) ≤ 127 * 2 ^ (7 * i) := Nat.mul_le_mul_right _ (by omega)
    generalize 2 ^ (7 * i) = z at *
    generalize c % 128 * z = y at *
    omega
  · obtain rfl : i = 9 := by omega
    have hc := hc rfl
    have e : c % 128 = c := Nat.mod_eq_of_lt (by omega)
    have e9 : (2 : Nat) ^ (7 * 9) = 9223372036854775808 := by decide
    have h1 : c % 128 * 2 ^ (7 * 9) ≤ 9223372036854775808 := by
      rw [e, e9]; exact Nat.le_trans (Nat.mul_le_mul_right _ hc) (by decide)
    rw [e9] at hu
    generalize c % 128 * 2 ^ (7 * 9) = y at *
    clear e e9
    exact ⟨by omega, by omega, fun h => absurd h (by omega)⟩
theorem shl_u64 {x i : Nat} (hi : i ≤ 9) (hx : x * 2 ^ (7 * i) < 18446744073709551616) {y : Int} (hy : y = 7 * (i : Int)) : shl .u64 (x : Int) y = ((x * 2 ^ (7 * i) : Nat) : Int) := by
  subst hy
  unfold shl
  have hb : IntKind.u64.bits = 64 := rfl
  have e : min (7 * (i : Int)).toNat 64 = 7 * i := by omega
  rw [hb, e, wrap_u64]
  have e2 : (x : Int) * 2 ^ (7 * i) = ((x * 2 ^ (7 * i) : Nat) : Int) := by simp
  rw [e2]
  omega

theorem s_fin (z : Nat) (g2 : z < 18446744073709551616) (x : Int) :
    (if Int.tmod (z : Int) 2 = 1 then some (wrap64 (wrap64 (-(wrap64 (IntKind.u64.wrap (Int.tdiv (z : Int) 2)))) - 1), x, (0 : Int)) else some (wrap64 (IntKind.u64.wrap (Int.tdiv (z : Int) 2)), x, 0)) = some (unzz z, x, 0) := by
  have t1 : Int.tmod (z : Int) 2 = ((z % 2 : Nat) : Int) := tmod_nat z 2
  have t2 : Int.tdiv (z : Int) 2 = ((z / 2 : Nat) : Int) := tdiv_nat z 2
  have t3 : wrap64 (IntKind.u64.wrap ((z / 2 : Nat) : Int)) = ((z / 2 : Nat) : Int) := by rw [u64_id (by omega) (by omega), wrap64_id (by omega) (by omega)]
  have t4 : wrap64 (-((z / 2 : Nat) : Int)) = -((z / 2 : Nat) : Int) := wrap64_id (by omega) (by omega)
  have t5 : wrap64 (-((z / 2 : Nat) : Int) - 1) = -((z / 2 : Nat) : Int) - 1 := wrap64_id (by omega) (by omega)
  rw [t1, t2, t3, t4, t5]
  unfold unzz
  by_cases hp : z % 2 = 1
  · rw [if_pos (by omega), if_pos hp]
  · rw [if_neg (by omega), if_neg hp]
set_option maxHeartbeats 1000000 in
theorem s_gdec (s : ByteArray) (a : Int) (hs : (s.size : Int) ≤ 8000) (h0 : 0 ≤ a) (ha : a ≤ 9223372036854775807) : ∀ (f i u k : Nat), i + f = 10 → u < 2 ^ (7 * i) → 2 * f + 2 ≤ k →
    spec_GetNum.l0 k s a (u : Int) (i : Int) = some (gdec f s a i u) := by
  intro f
  induction f with
  | zero =>
    intro i u k hi _ hk
    obtain ⟨k, rfl⟩ : ∃ m, k = m + 1 := ⟨k - 1, by omega⟩
    simp only [spec_GetNum.l0]
    rw [if_neg (by omega)]; rfl
  | succ f ih =>
    intro i u k hi hu hk
    obtain ⟨k, rfl⟩ : ∃ m, k = m + 3 := ⟨k - 3, by omega⟩
    have w1 : wrap64 ((s.size : Int) - (i : Int)) = (s.size : Int) - i := wrap64_id (by omega) (by omega)
    simp only [spec_GetNum.l0, gdec]
    rw [if_pos (by omega), w1]
    by_cases hsh : a + (i : Int) ≥ (s.size : Int)
    · rw [if_pos (by omega), if_pos hsh]
    · rw [if_neg (by omega), if_neg hsh]
      have w2 : wrap64 (a + (i : Int)) = a + i := wrap64_id (by omega) (by omega)
      obtain ⟨b0, b1⟩ := bt_range s (a + i)
      obtain ⟨c, hc⟩ := Int.eq_ofNat_of_zero_le b0
      have w3 : IntKind.u64.wrap (bt s (a + (i : Int))) = (c : Int) := by rw [u64_id b0 (by omega), hc]
      have w4 : IntKind.u64.wrap (wrap64 (7 * (i : Int))) = 7 * (i : Int) := by rw [wrap64_id (by omega) (by omega), u64_id (by omega) (by omega)]
      have w5 : Int.tmod (c : Int) 128 = ((c % 128 : Nat) : Int) := tmod_nat c 128
      simp only [w2, w3]
      rw [if_pos (by omega), if_pos (by omega), hc, Int.toNat_natCast]
      rw [hc] at b1
      by_cases h9 : i = 9 ∧ (c : Int) > 1
      · obtain ⟨h9, h91⟩ := h9
        rw [if_pos (by omega), if_pos ⟨h9, h91⟩]
        simp only [spec_GetNum.j1]
        rw [if_pos (by simpa using h91)]
      · rw [if_neg h9]
        have hfl : (if (i : Int) = 9 then spec_GetNum.j1 (k + 2) s a (u : Int) (i : Int) (c : Int) (decide ((c : Int) > 1)) else spec_GetNum.j1 (k + 2) s a (u : Int) (i : Int) (c : Int) false) = spec_GetNum.j1 (k + 2) s a (u : Int) (i : Int) (c : Int) false := by
          split
          · have : decide ((c : Int) > 1) = false := decide_eq_false (by omega)
            rw [this]
          · rfl
        rw [hfl]
        obtain ⟨g1, g2, g3⟩ := group_lt (c := c) (show i ≤ 9 by omega) hu (by omega)
        have w6 : shl .u64 ((c % 128 : Nat) : Int) (7 * (i : Int)) = ((c % 128 * 2 ^ (7 * i) : Nat) : Int) := shl_u64 (by omega) g1 rfl
        generalize c % 128 * 2 ^ (7 * i) = v at *
        have w7 : IntKind.u64.wrap ((u : Int) + (v : Int)) = ((u + v : Nat) : Int) := by rw [u64_id (by omega) (by omega)]; omega
        have w8 : wrap64 ((i : Int) + 1) = ((i + 1 : Nat) : Int) := wrap64_id (by omega) (by omega)
        simp only [spec_GetNum.j1, w4, w5, w6, w7, w8]
        clear w4 w5 w6 w7 w8 w1 w3 hu g1
        generalize u + v = z at *
        rw [if_neg (by simp), if_pos (by omega)]
        by_cases h128 : (c : Int) ≥ 128
        · rw [if_neg (by omega), if_pos h128]
          rcases Nat.lt_or_ge i 9 with h | h
          · exact ih (i + 1) _ _ (by omega) (g3 h) (by omega)
          · exfalso; omega
        · rw [if_pos (by omega), if_neg h128]
          by_cases hz : (c : Int) = 0 ∧ i > 0
          · rw [if_pos hz.1, if_pos hz]
            simp only [spec_GetNum.j2]
            rw [if_pos (by simpa using hz.2)]
          · have hfl2 : (if (c : Int) = 0 then spec_GetNum.j2 (k + 1) a (z : Int) (i : Int) (decide ((i : Int) > 0)) else spec_GetNum.j2 (k + 1) a (z : Int) (i : Int) false) = spec_GetNum.j2 (k + 1) a (z : Int) (i : Int) false := by
              split
              · have : decide ((i : Int) > 0) = false := decide_eq_false (by omega)
                rw [this]
              · rfl
            rw [hfl2, if_neg hz]
            simp only [spec_GetNum.j2, w2]
            rw [if_neg (by simp)]
            have t6 : wrap64 (a + (i : Int) + 1) = a + i + 1 := wrap64_id (by omega) (by omega)
            rw [t6]
            exact s_fin z g2 _
theorem s_getNum (s : ByteArray) (a : Int) (ha : a ≤ 9223372036854775807) (k : Nat) (hk : 22 ≤ k) : spec_GetNum.f k s a = some (gnum s a) := by
  unfold spec_GetNum.f gnum
  by_cases h : (s.size : Int) > 8000
  · rw [if_pos h, if_pos h]
  · rw [if_neg h, if_neg h]
    by_cases h0 : a < 0
    · rw [if_pos h0, if_pos h0]
    · rw [if_neg h0, if_neg h0]
      exact s_gdec s a (by omega) (by omega) ha 10 0 0 k (by omega) (by simp) (by omega)

theorem and127 : ∀ b : Nat, b < 256 → b &&& 127 = b % 128 := by decide +kernel
theorem i_and {c : Nat} (h : c < 256) : IntKind.u64.wrap (Go.bits .and .u8 (c : Int) 127) = ((c % 128 : Nat) : Int) := by
  have e2 : (127 : Int) = ((127 : Nat) : Int) := rfl
  rw [e2, bits_and_nat, IntKind.wrap_u8, wrap_u64]
  have hb : (2 : Nat) ^ IntKind.u8.bits = 256 := by decide
  rw [hb, Nat.mod_eq_of_lt h, show 127 % 256 = 127 from rfl, and127 c h]
  omega
theorem or_group {u x i : Nat} (hu : u < 2 ^ (7 * i)) (h1 : x * 2 ^ (7 * i) < 18446744073709551616) (h2 : u + x * 2 ^ (7 * i) < 18446744073709551616) : Go.bits .or .u64 (u : Int) ((x * 2 ^ (7 * i) : Nat) : Int) = ((u + x * 2 ^ (7 * i) : Nat) : Int) := by
  rw [bits_or_nat, wrap_u64]
  have hb : (2 : Nat) ^ IntKind.u64.bits = 18446744073709551616 := by decide
  rw [hb, Nat.mod_eq_of_lt (by omega : u < 18446744073709551616), Nat.mod_eq_of_lt h1]
  have e : u ||| x * 2 ^ (7 * i) = u + x * 2 ^ (7 * i) := by
    rw [Nat.or_comm, Nat.mul_comm x, ← Nat.two_pow_add_eq_or_of_lt hu, Nat.add_comm]
  rw [e]
  omega
theorem and_one {z : Nat} (h : z < 18446744073709551616) : Go.bits .and .u64 (z : Int) 1 = ((z % 2 : Nat) : Int) := by
  have e2 : (1 : Int) = ((1 : Nat) : Int) := rfl
  rw [e2, bits_and_nat, wrap_u64]
  have hb : (2 : Nat) ^ IntKind.u64.bits = 18446744073709551616 := by decide
  rw [hb, Nat.mod_eq_of_lt h, show 1 % 18446744073709551616 = 2 ^ 1 - 1 from by decide, Nat.and_two_pow_sub_one_eq_mod]
  omega
theorem xor_zero_i64 {n : Nat} (h : n < 9223372036854775808) : Go.bits .xor .i64 (n : Int) 0 = (n : Int) := by
  have e2 : (0 : Int) = ((0 : Nat) : Int) := rfl
  rw [e2, bits_xor_nat, IntKind.wrap_i64]
  have hb : (2 : Nat) ^ IntKind.i64.bits = 18446744073709551616 := by decide
  rw [hb, Nat.mod_eq_of_lt (by omega : n < 18446744073709551616), Nat.zero_mod, Nat.xor_zero]
  omega
theorem xor_ones_i64 {n : Nat} (h : n < 9223372036854775808) : Go.bits .xor .i64 (n : Int) (-1) = -(n : Int) - 1 := by
  have hb : IntKind.i64.bits = 64 := rfl
  have e3 : (BitVec.ofInt 64 (-1)) = BitVec.ofNat 64 18446744073709551615 := by decide
  have e4 : Go.bits .xor .i64 (n : Int) (-1) = IntKind.i64.wrap (((BitVec.ofInt 64 (n : Int)) ^^^ (BitVec.ofInt 64 (-1))).toNat : Int) := rfl
  rw [e4, e3, BitVec.ofInt_natCast, BitVec.toNat_xor, BitVec.toNat_ofNat, BitVec.toNat_ofNat]
  have h64 : (2 : Nat) ^ 64 = 18446744073709551616 := by decide
  rw [h64, Nat.mod_eq_of_lt (by omega : n < 18446744073709551616), show 18446744073709551615 % 18446744073709551616 = 18446744073709551615 from by decide, xor_ones _ (by omega), IntKind.wrap_i64]
  omega
theorem i_fin {z : Nat} (g2 : z < 18446744073709551616) : Go.bits .xor .i64 (wrap64 ((z : Int) / 2)) (wrap64 (-(wrap64 (Go.bits .and .u64 (z : Int) 1)))) = unzz z := by
  rw [and_one g2]
  have t1 : wrap64 ((z : Int) / 2) = ((z / 2 : Nat) : Int) := wrap64_id (by omega) (by omega)
  have t2 : wrap64 ((z % 2 : Nat) : Int) = ((z % 2 : Nat) : Int) := wrap64_id (by omega) (by omega)
  rw [t1, t2]
  unfold unzz
  by_cases hp : z % 2 = 1
  · rw [if_pos hp, hp]
    have t3 : wrap64 (-((1 : Nat) : Int)) = -1 := by unfold wrap64; omega
    rw [t3, xor_ones_i64 (by omega)]
  · rw [if_neg hp, show z % 2 = 0 from by omega]
    have t3 : wrap64 (-((0 : Nat) : Int)) = 0 := by unfold wrap64; omega
    rw [t3, xor_zero_i64 (by omega)]
set_option maxHeartbeats 1000000 in
theorem i_gdec (s : ByteArray) (a : Int) (hs : (s.size : Int) ≤ 8000) (h0 : 0 ≤ a) (ha : a ≤ 8000) : ∀ (f i u k : Nat), i + f = 10 → 0 < f → u < 2 ^ (7 * i) → 2 * f + 2 ≤ k →
    impl_getNum.l0 k s a (u : Int) (i : Int) = some (gdec f s a i u) := by
  intro f
  induction f with
  | zero => intro i u k _ hf; omega
  | succ f ih =>
    intro i u k hi _ hu hk
    obtain ⟨k, rfl⟩ : ∃ m, k = m + 2 := ⟨k - 2, by omega⟩
    have w2 : wrap64 (a + (i : Int)) = a + i := wrap64_id (by omega) (by omega)
    simp only [impl_getNum.l0, gdec, w2]
    by_cases hsh : a + (i : Int) ≥ (s.size : Int)
    · rw [if_pos hsh, if_pos hsh]
    · rw [if_neg hsh, if_neg hsh]
      obtain ⟨b0, b1⟩ := bt_range s (a + i)
      obtain ⟨c, hc⟩ := Int.eq_ofNat_of_zero_le b0
      have w4 : wrap64 (7 * (i : Int)) = 7 * (i : Int) := wrap64_id (by omega) (by omega)
      rw [if_pos (by omega), if_pos (by omega), hc, Int.toNat_natCast]
      rw [hc] at b1
      have w5 := i_and (show c < 256 by omega)
      by_cases h9 : i = 9 ∧ (c : Int) > 1
      · obtain ⟨h9, h91⟩ := h9
        rw [if_pos (by omega), if_pos ⟨h9, h91⟩]
        simp only [impl_getNum.j1]
        rw [if_pos (by simpa using h91)]
      · rw [if_neg h9]
        have hfl : (if (i : Int) = 9 then impl_getNum.j1 (k + 1) s a (u : Int) (i : Int) (c : Int) (decide ((c : Int) > 1)) else impl_getNum.j1 (k + 1) s a (u : Int) (i : Int) (c : Int) false) = impl_getNum.j1 (k + 1) s a (u : Int) (i : Int) (c : Int) false := by
          split
          · have : decide ((c : Int) > 1) = false := decide_eq_false (by omega)
            rw [this]
          · rfl
        rw [hfl]
        obtain ⟨g1, g2, g3⟩ := group_lt (c := c) (show i ≤ 9 by omega) hu (by omega)
        have w6 : shl .u64 ((c % 128 : Nat) : Int) (7 * (i : Int)) = ((c % 128 * 2 ^ (7 * i) : Nat) : Int) := shl_u64 (by omega) g1 rfl
        have w7 := or_group hu g1 g2
        generalize c % 128 * 2 ^ (7 * i) = v at *
        have w8 : wrap64 ((i : Int) + 1) = ((i + 1 : Nat) : Int) := wrap64_id (by omega) (by omega)
        simp only [impl_getNum.j1, w2, w4, w5, w6, w7, w8]
        clear w4 w5 w6 w7 w8 hu g1
        generalize u + v = z at *
        rw [if_neg (by simp), if_pos (by omega)]
        by_cases h128 : (c : Int) ≥ 128
        · rw [if_pos h128, if_pos h128]
          rcases Nat.lt_or_ge i 9 with h | h
          · exact ih (i + 1) _ _ (by omega) (by omega) (g3 h) (by omega)
          · exfalso; omega
        · rw [if_neg h128, if_neg h128]
          have hv := i_fin g2
          have t6 : wrap64 (a + (i : Int) + 1) = a + i + 1 := wrap64_id (by omega) (by omega)
          rw [hv, t6]
          by_cases hz : (c : Int) = 0 ∧ i > 0
          · rw [if_pos hz.1, if_pos (by omega), if_pos hz]
          · rw [if_neg hz]
            by_cases hz0 : (c : Int) = 0
            · rw [if_pos hz0, if_neg (by omega)]
            · rw [if_neg hz0]
theorem i_getNum (s : ByteArray) (a : Int) (k : Nat) (hk : 22 ≤ k) : impl_GetNum.f k s a = some (gnum s a) := by
  unfold impl_GetNum.f impl_isLong.f gnum
  simp only [Option.bind_some, decide_eq_true_eq]
  by_cases h : (s.size : Int) > 8000
  · rw [if_pos h, if_pos h]
  · rw [if_neg h, if_neg h]
    by_cases h0 : a < 0
    · rw [if_pos h0, if_pos h0]
    · rw [if_neg h0, if_neg h0]
      by_cases h1 : a ≥ (s.size : Int)
      · rw [if_pos h1]
        simp only [gdec]
        rw [if_pos (by omega)]
      · rw [if_neg h1]
        unfold impl_getNum.f
        rw [show (0 : Int) = ((0 : Nat) : Int) from rfl, i_gdec s a (by omega) (by omega) (by omega) 10 0 0 k (by omega) (by omega) (by simp) (by omega)]
        rfl

theorem i_in (a b c : Int) : impl_in.f a b c = some (decide (b ≤ a ∧ a ≤ c)) := by
  unfold impl_in.f; by_cases h : b ≤ a
  · rw [if_pos h]; by_cases h2 : a ≤ c <;> simp [h, h2]
  · rw [if_neg h]; congr 1; symm; apply decide_eq_false; omega

/-- What a decoded number is, and where it ends. -/
theorem gdec_ok : ∀ (f : Nat) (s : ByteArray) (a : Int) (i u : Nat), 0 ≤ a → (gdec f s a i u).2.2 = 0 → 0 ≤ (gdec f s a i u).2.1 ∧ (gdec f s a i u).2.1 ≤ (s.size : Int)
  | 0, s, a, i, u, _, h => by simp [gdec] at h
  | f + 1, s, a, i, u, h0, h => by
    rw [gdec] at h ⊢
    by_cases h1 : a + i ≥ (s.size : Int)
    · rw [if_pos h1] at h; simp at h
    · rw [if_neg h1] at h ⊢
      by_cases h2 : i = 9 ∧ bt s (a + i) > 1
      · rw [if_pos h2] at h; simp at h
      · rw [if_neg h2] at h ⊢
        by_cases h3 : bt s (a + i) ≥ 128
        · rw [if_pos h3] at h ⊢; exact gdec_ok f s a _ _ h0 h
        · rw [if_neg h3] at h ⊢
          by_cases h4 : bt s (a + i) = 0 ∧ i > 0
          · rw [if_pos h4] at h; simp at h
          · rw [if_neg h4]; exact ⟨by simp only; omega, by simp only; omega⟩
theorem gnum_ok {s : ByteArray} {a : Int} (h : (gnum s a).2.2 = 0) : (s.size : Int) ≤ 8000 ∧ 0 ≤ (gnum s a).2.1 ∧ (gnum s a).2.1 ≤ (s.size : Int) := by
  unfold gnum at h ⊢
  by_cases h1 : (s.size : Int) > 8000
  · rw [if_pos h1] at h; simp at h
  · rw [if_neg h1] at h ⊢
    by_cases h2 : a < 0
    · rw [if_pos h2] at h; simp at h
    · rw [if_neg h2] at h ⊢
      have := gdec_ok 10 s a 0 0 (by omega) h
      exact ⟨by omega, this⟩
def gtxt (s : ByteArray) (a : Int) : ByteArray × Int × Int :=
  if (gnum s a).2.2 = 0 then (if 0 ≤ (gnum s a).1 ∧ (gnum s a).1 ≤ 8000 then (if (gnum s a).2.1 + (gnum s a).1 > (s.size : Int) then (⟨#[]⟩, 0, 4)
    else (s.extract (gnum s a).2.1.toNat ((gnum s a).2.1 + (gnum s a).1).toNat, (gnum s a).2.1 + (gnum s a).1, 0)) else (⟨#[]⟩, 0, 3)) else (⟨#[]⟩, 0, (gnum s a).2.2)
theorem s_getText (s : ByteArray) (a : Int) (ha : a ≤ 9223372036854775807) (k : Nat) (hk : 22 ≤ k) : spec_GetText.f k s a = some (gtxt s a) := by
  obtain ⟨k, rfl⟩ : ∃ q, k = q + 1 := ⟨k - 1, by omega⟩
  unfold spec_GetText.f gtxt
  rw [s_getNum s a ha _ hk, Option.bind_some]
  by_cases h : (gnum s a).2.2 = 0
  · obtain ⟨hs, h0, h1⟩ := gnum_ok h
    rw [if_pos h, if_pos h]
    generalize (gnum s a).1 = n at *
    generalize (gnum s a).2.1 = e at *
    simp only [spec_GetText.j0]
    by_cases hn : 0 ≤ n ∧ n ≤ 8000
    · rw [if_neg (by omega), if_pos hn, if_neg (by simp; omega)]
      have w1 : wrap64 ((s.size : Int) - n) = (s.size : Int) - n := wrap64_id (by omega) (by omega)
      have w2 : wrap64 (e + n) = e + n := wrap64_id (by omega) (by omega)
      rw [w1, w2]
      by_cases hz : e + n > (s.size : Int)
      · rw [if_pos (by omega), if_pos hz]
      · rw [if_neg (by omega), if_neg hz, if_pos h0, if_pos (by omega), if_pos (by omega)]
    · rw [if_neg hn]
      by_cases hn0 : n < 0
      · rw [if_pos hn0, if_pos trivial]
      · rw [if_neg hn0, if_pos (by simp; omega)]
  · rw [if_neg h, if_neg h]
theorem i_getText (s : ByteArray) (a : Int) (k : Nat) (hk : 22 ≤ k) : impl_GetText.f k s a = some (gtxt s a) := by
  unfold impl_GetText.f gtxt
  rw [i_getNum s a _ hk, Option.bind_some]
  by_cases h : (gnum s a).2.2 = 0
  · obtain ⟨hs, h0, h1⟩ := gnum_ok h
    rw [if_pos h, if_pos h, i_in, Option.bind_some]
    generalize (gnum s a).1 = n at *
    generalize (gnum s a).2.1 = e at *
    by_cases hn : 0 ≤ n ∧ n ≤ 8000
    · rw [if_pos (by simpa using hn), if_pos hn]
      have w2 : wrap64 (e + n) = e + n := wrap64_id (by omega) (by omega)
      rw [w2]
      by_cases hz : e + n > (s.size : Int)
      · rw [if_pos hz, if_pos hz]
      · rw [if_neg hz, if_neg hz, if_pos h0, if_pos (by omega), if_pos (by omega)]
    · rw [if_neg (by simpa using hn), if_neg hn]
  · rw [if_neg h, if_neg h]

theorem FnExactGetText : laws_FnExactGetText.Pure := by
  intro s a _ hw
  have h := wf_i64 hw
  refine ⟨22, ?_⟩
  unfold laws_FnExactGetText.f
  by_cases h1 : (s.size : Int) > 1048576
  · rw [if_pos h1]
  · rw [if_neg h1, s_getText s a h.2 22 (by omega), i_getText s a 22 (by omega)]
    simp [laws_eqTextOut.f]

end Go.Proofs.Ytboefhiobafijaa.Pure
