/- The plain law of FnExactVxBytes: for all arguments that fit the guards its printed function answers true. -/
import Derived.Test.YtkjchkdifknnbaaPFnExactVxBytesx
set_option linter.unusedVariables false
set_option linter.unusedSimpArgs false
namespace Go.Proofs.Ytkjchkdifknnbaa.Pure
open Go.RowKit Go.Proofs.Ytkjchkdifknnbaa.PFnExactVxBytes Go.Proofs.YtkjchkdifknnbaaW.PrintWords Go.Proofs.YtkjchkdifknnbaaW.PrintLast Go.Proofs.YtkjchkdifknnbaaW.PrintMore

theorem s_is (a b c : Int) : spec_l02Is.f a b c = some (decide (b ≤ a ∧ a ≤ c)) := by
  unfold spec_l02Is.f; by_cases h : a ≥ b
  · rw [if_pos h]; by_cases h2 : a ≤ c <;> simp [h, h2]
  · rw [if_neg h]; congr 1; symm; apply decide_eq_false; omega
theorem i_in (a b c : Int) : impl_in.f a b c = some (decide (b ≤ a ∧ a ≤ c)) := by
  unfold impl_in.f; by_cases h : b ≤ a
  · rw [if_pos h]; by_cases h2 : a ≤ c <;> simp [h, h2]
  · rw [if_neg h]; congr 1; symm; apply decide_eq_false; omega

theorem bits_xor_nat (k : IntKind) (a b : Nat) : Go.bits .xor k a b = k.wrap (((a % 2 ^ k.bits) ^^^ (b % 2 ^ k.bits) : Nat) : Int) := by
  simp only [Go.bits, BitVec.ofInt_natCast, BitVec.toNat_xor, BitVec.toNat_ofNat]
theorem bits_or_nat (k : IntKind) (a b : Nat) : Go.bits .or k a b = k.wrap (((a % 2 ^ k.bits) ||| (b % 2 ^ k.bits) : Nat) : Int) := by
  simp only [Go.bits, BitVec.ofInt_natCast, BitVec.toNat_or, BitVec.toNat_ofNat]
theorem bits_and_nat (k : IntKind) (a b : Nat) : Go.bits .and k a b = k.wrap (((a % 2 ^ k.bits) &&& (b % 2 ^ k.bits) : Nat) : Int) := by
  simp only [Go.bits, BitVec.ofInt_natCast, BitVec.toNat_and, BitVec.toNat_ofNat]
theorem wrap_u64 (n : Int) : IntKind.u64.wrap n = n % 18446744073709551616 := by simp [IntKind.wrap, IntKind.bits, IntKind.signed]
theorem wf_i64 {n : Int} (h : (Lit.int .i64 n).wf = true) : -9223372036854775808 ≤ n ∧ n ≤ 9223372036854775807 := by
  simp [Lit.wf, IntKind.signed, IntKind.bits, IntKind.min, IntKind.max] at h
  omega
theorem xor_ones (x : Nat) (h : x < 18446744073709551616) : x ^^^ 18446744073709551615 = 18446744073709551615 - x := by
  have e := BitVec.toNat_not (x := BitVec.ofNat 64 x)
  rw [← BitVec.xor_allOnes, BitVec.toNat_xor, BitVec.toNat_allOnes, BitVec.toNat_ofNat] at e
  rw [Nat.mod_eq_of_lt (by simpa using h)] at e
  simpa using e

def big3 (x : Int) : ByteArray := strOfNums [x / 256 / 256 % 256, x / 256 % 256, x % 256]
theorem and255 {x : Int} (h0 : 0 ≤ x) (h1 : x < 9223372036854775808) : Go.bits .and .i64 x 255 % 256 = x % 256 := by
  obtain ⟨n, rfl⟩ := Int.eq_ofNat_of_zero_le h0
  have e2 : (255 : Int) = ((255 : Nat) : Int) := rfl
  rw [e2, bits_and_nat]
  have hb : (2 : Nat) ^ IntKind.i64.bits = 18446744073709551616 := by decide
  rw [hb, Nat.mod_eq_of_lt (by omega : n < 18446744073709551616), show 255 % 18446744073709551616 = 2 ^ 8 - 1 from by decide, Nat.and_two_pow_sub_one_eq_mod, IntKind.wrap_i64]
  omega
theorem s_big3 {x : Int} (h0 : 0 ≤ x) (h1 : x < 9223372036854775808) (k : Nat) (hk : 4 ≤ k) : spec_l02Put.f k x 3 = some (big3 x) := by
  obtain ⟨k, rfl⟩ : ∃ m, k = m + 4 := ⟨k - 4, by omega⟩
  have w2 : wrap64 2 = 2 := by unfold wrap64; omega
  have w1 : wrap64 (2 - 1) = 1 := by unfold wrap64; omega
  have w0 : wrap64 (1 - 1) = 0 := by unfold wrap64; omega
  have wm : wrap64 (0 - 1) = -1 := by unfold wrap64; omega
  have w3 : wrap64 (3 - 1) = 2 := by unfold wrap64; omega
  unfold spec_l02Put.f
  simp only [spec_l02Put.l0, w3, w2, w1, w0, wm, and255 h0 h1, and255 (show 0 ≤ x / 256 by omega) (by omega), and255 (show 0 ≤ x / 256 / 256 by omega) (by omega)]
  simp [big3, List.replicate, List.set]
theorem i_big3 {x : Int} (k : Nat) (hk : 4 ≤ k) : impl_big.f k x 3 = some (big3 x) := by
  obtain ⟨k, rfl⟩ : ∃ m, k = m + 4 := ⟨k - 4, by omega⟩
  have w2 : wrap64 2 = 2 := by unfold wrap64; omega
  have w1 : wrap64 (2 - 1) = 1 := by unfold wrap64; omega
  have w0 : wrap64 (1 - 1) = 0 := by unfold wrap64; omega
  have wm : wrap64 (0 - 1) = -1 := by unfold wrap64; omega
  have w3 : wrap64 (3 - 1) = 2 := by unfold wrap64; omega
  unfold impl_big.f
  simp only [impl_big.l0, w3, w2, w1, w0, wm]
  simp [big3, List.replicate, List.set]
theorem big3_size (x : Int) : (big3 x).size = 3 := by simp [big3, strOfNums, ByteArray.size]

def vxEnc (v : Int) (t : ByteArray) : ByteArray := if 1 ≤ v ∧ v ≤ 16777215 then (if (t.size : Int) > 74 then ⟨#[]⟩ else (((⟨#[8, 0, 0, 0]⟩ : ByteArray) ++ big3 v) ++ (⟨#[0]⟩ : ByteArray)) ++ t) else ⟨#[]⟩
theorem s_vxBytes (v : Int) (t : ByteArray) (k : Nat) (hk : 4 ≤ k) : spec_VxBytes.f k v t = some (vxEnc v t) := by
  unfold spec_VxBytes.f spec_l02Vni.f vxEnc
  simp only [s_is, Option.bind_some, decide_eq_true_eq]
  by_cases h : 1 ≤ v ∧ v ≤ 16777215
  · rw [if_pos h, if_pos h]
    by_cases h2 : (t.size : Int) > 74
    · rw [if_pos h2, if_pos h2]
    · rw [if_neg h2, if_neg h2, s_big3 (by omega) (by omega) k hk]
      simp only [Option.bind_some, big3_size]
      rw [if_pos (by omega), if_pos (by omega), if_pos (by omega)]
  · rw [if_neg h, if_neg h]
theorem i_vxBytes (v : Int) (t : ByteArray) (k : Nat) (hk : 4 ≤ k) : impl_VxBytes.f k v t = some (vxEnc v t) := by
  unfold impl_VxBytes.f impl_isVni.f vxEnc
  simp only [i_in, Option.bind_some, decide_eq_true_eq]
  by_cases h : 1 ≤ v ∧ v ≤ 16777215
  · rw [if_pos h, if_pos h]
    by_cases h2 : (t.size : Int) > 74
    · rw [if_pos h2, if_pos h2]
    · rw [if_neg h2, if_neg h2, i_big3 k hk]
      simp only [Option.bind_some, big3_size]
      rw [if_pos (by omega), if_pos (by omega), if_pos (by omega)]
  · rw [if_neg h, if_neg h]

theorem FnExactVxBytes : laws_FnExactVxBytes.Pure := by
  intro v t _ _
  refine ⟨4, ?_⟩
  unfold laws_FnExactVxBytes.f
  by_cases h : (t.size : Int) > 1048576
  · rw [if_pos h]
  · rw [if_neg h, s_vxBytes v t 4 (by omega), i_vxBytes v t 4 (by omega)]
    simp

end Go.Proofs.Ytkjchkdifknnbaa.Pure
