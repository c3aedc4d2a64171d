/- The plain law of FnExactRangeRight: for all arguments that fit the guards its printed function answers true. -/
import Derived.Test.YtkjchkdifknnbaaPFnExactRangeRightx
set_option linter.unusedVariables false
set_option linter.unusedSimpArgs false
namespace Go.Proofs.Ytkjchkdifknnbaa.Pure
open Go.RowKit Go.Proofs.Ytkjchkdifknnbaa.PFnExactRangeRight Go.Proofs.YtkjchkdifknnbaaW.PrintWords Go.Proofs.YtkjchkdifknnbaaW.PrintLast Go.Proofs.YtkjchkdifknnbaaW.PrintMore

theorem s_is (a b c : Int) : spec_l02Is.f a b c = some (decide (b ≤ a ∧ a ≤ c)) := by
  unfold spec_l02Is.f; by_cases h : a ≥ b
  · rw [if_pos h]; by_cases h2 : a ≤ c <;> simp [h, h2]
  · rw [if_neg h]; congr 1; symm; apply decide_eq_false; omega
theorem i_in (a b c : Int) : impl_in.f a b c = some (decide (b ≤ a ∧ a ≤ c)) := by
  unfold impl_in.f; by_cases h : b ≤ a
  · rw [if_pos h]; by_cases h2 : a ≤ c <;> simp [h, h2]
  · rw [if_neg h]; congr 1; symm; apply decide_eq_false; omega

theorem wrap_sub {b : Int} (h0 : 0 ≤ b) (h1 : b ≤ 32) : wrap64 (32 - b) = 32 - b := by unfold wrap64; omega
theorem shl_pos {j : Int} (h0 : 0 ≤ j) (h1 : j ≤ 32) : shl .i64 1 j = 2 ^ j.toNat := by
  obtain ⟨n, rfl⟩ := Int.eq_ofNat_of_zero_le h0
  have hn : n ≤ 32 := by omega
  unfold shl
  have e1 : min ((n : Int)).toNat IntKind.i64.bits = n := by
    have : IntKind.i64.bits = 64 := rfl
    rw [this, Int.toNat_natCast]; omega
  rw [e1, Int.toNat_natCast, Int.one_mul]
  have hp : (2 : Int) ^ n ≤ 2 ^ 32 := by
    have := Nat.pow_le_pow_right (n := 2) (by decide) hn
    exact_mod_cast this
  have hq : (0 : Int) < 2 ^ n := by exact_mod_cast Nat.two_pow_pos n
  have h32 : (2 : Int) ^ 32 = 4294967296 := by decide
  rw [IntKind.wrap_i64]
  omega
theorem s_size {b : Int} (h0 : 0 ≤ b) (h1 : b ≤ 32) : spec_l16Size.f b = some (2 ^ (32 - b).toNat) := by
  unfold spec_l16Size.f
  rw [wrap_sub h0 h1, if_pos (by omega), shl_pos (by omega) (by omega)]
theorem i_size {a b c : Int} (h0 : 0 ≤ b) (h1 : b ≤ 32) : impl_Range_size.f a b c = some (2 ^ (32 - b).toNat) := by
  unfold impl_Range_size.f
  rw [wrap_sub h0 h1, if_pos (by omega), shl_pos (by omega) (by omega)]
theorem pow_ne (n : Nat) : ¬ (2 : Int) ^ n = 0 := by
  have hq : (0 : Int) < 2 ^ n := by exact_mod_cast Nat.two_pow_pos n
  omega
def rangeOk (a b c : Int) : Bool := decide (0 ≤ a ∧ a ≤ 4294967295) && decide (0 ≤ b ∧ b ≤ 32) && decide (Int.tmod a (2 ^ (32 - b).toNat) = 0) && decide (1 ≤ c ∧ c ≤ 4)
theorem s_rangeRight (a b c : Int) : spec_RangeRight.f a b c = some (rangeOk a b c) := by
  unfold spec_RangeRight.f spec_l02Ip.f spec_l09House.f rangeOk
  simp only [s_is, Option.bind_some]
  by_cases h1 : 0 ≤ a ∧ a ≤ 4294967295
  · by_cases h2 : 0 ≤ b ∧ b ≤ 32
    · rw [s_size h2.1 h2.2]
      by_cases h3 : Int.tmod a (2 ^ (32 - b).toNat) = 0 <;> simp [h1, h2, h3, pow_ne]
    · simp [h1, h2]
  · simp [h1]
theorem i_rangeRight (a b c : Int) : impl_RangeRight.f a b c = some (rangeOk a b c) := by
  unfold impl_RangeRight.f impl_isIp.f impl_isHouse.f rangeOk
  simp only [i_in, Option.bind_some]
  by_cases h1 : 0 ≤ a ∧ a ≤ 4294967295
  · by_cases h2 : 0 ≤ b ∧ b ≤ 32
    · rw [i_size h2.1 h2.2]
      by_cases h3 : Int.tmod a (2 ^ (32 - b).toNat) = 0 <;> simp [h1, h2, h3, pow_ne]
    · simp [h1, h2]
  · simp [h1]
theorem rangeOk_of {a b c : Int} (h : rangeOk a b c = true) : (0 ≤ a ∧ a ≤ 4294967295) ∧ (0 ≤ b ∧ b ≤ 32) := by
  unfold rangeOk at h
  simp only [Bool.and_eq_true, decide_eq_true_eq] at h
  exact ⟨h.1.1.1, h.1.1.2⟩

theorem FnExactRangeRight : laws_FnExactRangeRight.Pure := by
  intro a b c _ _ _
  unfold laws_FnExactRangeRight.f laws_toRange.f
  simp [s_rangeRight, i_rangeRight]

end Go.Proofs.Ytkjchkdifknnbaa.Pure
