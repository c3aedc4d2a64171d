/- The plain law of FnExactCovers: for all arguments that fit the guards its printed function answers true. -/
import Derived.Test.YtkjchkdifknnbaaPFnExactCoversx
set_option linter.unusedVariables false
set_option linter.unusedSimpArgs false
namespace Go.Proofs.Ytkjchkdifknnbaa.Pure
open Go.RowKit Go.Proofs.Ytkjchkdifknnbaa.PFnExactCovers Go.Proofs.YtkjchkdifknnbaaW.PrintWords Go.Proofs.YtkjchkdifknnbaaW.PrintLast Go.Proofs.YtkjchkdifknnbaaW.PrintMore

theorem s_is (a b c : Int) : spec_l02Is.f a b c = some (decide (b ≤ a ∧ a ≤ c)) := by
  unfold spec_l02Is.f; by_cases h : a ≥ b
  · rw [if_pos h]; by_cases h2 : a ≤ c <;> simp [h, h2]
  · rw [if_neg h]; congr 1; symm; apply decide_eq_false; omega
theorem i_in (a b c : Int) : impl_in.f a b c = some (decide (b ≤ a ∧ a ≤ c)) := by
  unfold impl_in.f; by_cases h : b ≤ a
  · rw [if_pos h]; by_cases h2 : a ≤ c <;> simp [h, h2]
  · rw [if_neg h]; congr 1; symm; apply decide_eq_false; omega

theorem wrap_sub {b : Int} (h0 : 0 ≤ b) (h1 : b ≤ 32) : wrap64 (32 - b) = 32 - b := by unfold wrap64; omega
theorem shl_pos {j : Int} (h0 : 0 ≤ j) (h1 : j ≤ 32) : shl .i64 1 j = 2 ^ j.toNat := by
  obtain ⟨n, rfl⟩ := Int.eq_ofNat_of_zero_le h0
  have hn : n ≤ 32 := by omega
  unfold shl
  have e1 : min ((n : Int)).toNat IntKind.i64.bits = n := by
    have : IntKind.i64.bits = 64 := rfl
    rw [this, Int.toNat_natCast]; omega
  rw [e1, Int.toNat_natCast, Int.one_mul]
  have hp : (2 : Int) ^ n ≤ 2 ^ 32 := by
    have := Nat.pow_le_pow_right (n := 2) (by decide) hn
    exact_mod_cast this
  have hq : (0 : Int) < 2 ^ n := by exact_mod_cast Nat.two_pow_pos n
  have h32 : (2 : Int) ^ 32 = 4294967296 := by decide
  rw [IntKind.wrap_i64]
  omega
theorem s_size {b : Int} (h0 : 0 ≤ b) (h1 : b ≤ 32) : spec_l16Size.f b = some (2 ^ (32 - b).toNat) := by
  unfold spec_l16Size.f
  rw [wrap_sub h0 h1, if_pos (by omega), shl_pos (by omega) (by omega)]
theorem i_size {a b c : Int} (h0 : 0 ≤ b) (h1 : b ≤ 32) : impl_Range_size.f a b c = some (2 ^ (32 - b).toNat) := by
  unfold impl_Range_size.f
  rw [wrap_sub h0 h1, if_pos (by omega), shl_pos (by omega) (by omega)]
theorem pow_ne (n : Nat) : ¬ (2 : Int) ^ n = 0 := by
  have hq : (0 : Int) < 2 ^ n := by exact_mod_cast Nat.two_pow_pos n
  omega
def rangeOk (a b c : Int) : Bool := decide (0 ≤ a ∧ a ≤ 4294967295) && decide (0 ≤ b ∧ b ≤ 32) && decide (Int.tmod a (2 ^ (32 - b).toNat) = 0) && decide (1 ≤ c ∧ c ≤ 4)
theorem s_rangeRight (a b c : Int) : spec_RangeRight.f a b c = some (rangeOk a b c) := by
  unfold spec_RangeRight.f spec_l02Ip.f spec_l09House.f rangeOk
  simp only [s_is, Option.bind_some]
  by_cases h1 : 0 ≤ a ∧ a ≤ 4294967295
  · by_cases h2 : 0 ≤ b ∧ b ≤ 32
    · rw [s_size h2.1 h2.2]
      by_cases h3 : Int.tmod a (2 ^ (32 - b).toNat) = 0 <;> simp [h1, h2, h3, pow_ne]
    · simp [h1, h2]
  · simp [h1]
theorem i_rangeRight (a b c : Int) : impl_RangeRight.f a b c = some (rangeOk a b c) := by
  unfold impl_RangeRight.f impl_isIp.f impl_isHouse.f rangeOk
  simp only [i_in, Option.bind_some]
  by_cases h1 : 0 ≤ a ∧ a ≤ 4294967295
  · by_cases h2 : 0 ≤ b ∧ b ≤ 32
    · rw [i_size h2.1 h2.2]
      by_cases h3 : Int.tmod a (2 ^ (32 - b).toNat) = 0 <;> simp [h1, h2, h3, pow_ne]
    · simp [h1, h2]
  · simp [h1]
theorem rangeOk_of {a b c : Int} (h : rangeOk a b c = true) : (0 ≤ a ∧ a ≤ 4294967295) ∧ (0 ≤ b ∧ b ≤ 32) := by
  unfold rangeOk at h
  simp only [Bool.and_eq_true, decide_eq_true_eq] at h
  exact ⟨h.1.1.1, h.1.1.2⟩

theorem pow_le32 {b : Int} (h0 : 0 ≤ b) : (0 : Int) < 2 ^ (32 - b).toNat ∧ (2 : Int) ^ (32 - b).toNat ≤ 4294967296 := by
  have hp := Nat.pow_le_pow_right (n := 2) (by decide) (show (32 - b).toNat ≤ 32 by omega)
  have hq := Nat.two_pow_pos (32 - b).toNat
  rw [show (2 : Nat) ^ 32 = 4294967296 from by decide] at hp
  have e : (2 : Int) ^ (32 - b).toNat = ((2 ^ (32 - b).toNat : Nat) : Int) := by simp
  rw [e]
  generalize 2 ^ (32 - b).toNat = z at *
  omega
def coversB (a b ip : Int) : Bool := decide (a ≤ ip ∧ ip < a + 2 ^ (32 - b).toNat)
theorem s_covers16 {a b c ip : Int} (ha : 0 ≤ a ∧ a ≤ 4294967295) (hb : 0 ≤ b ∧ b ≤ 32) : spec_l16Covers.f a b c ip = some (coversB a b ip) := by
  unfold spec_l16Covers.f coversB
  obtain ⟨p0, p1⟩ := pow_le32 hb.1
  rw [s_size hb.1 hb.2]
  simp only [Option.bind_some]
  generalize (2 : Int) ^ (32 - b).toNat = z at *
  have hw : wrap64 (a + z) = a + z := by unfold wrap64; omega
  rw [hw]
  by_cases h : ip ≥ a
  · rw [if_pos h]; by_cases h2 : ip < a + z <;> simp [h, h2]
  · rw [if_neg h]; congr 1; symm; apply decide_eq_false; omega
theorem i_covers {a b c ip : Int} (ha : 0 ≤ a ∧ a ≤ 4294967295) (hb : 0 ≤ b ∧ b ≤ 32) : impl_Range_covers.f a b c ip = some (coversB a b ip) := by
  unfold impl_Range_covers.f coversB
  obtain ⟨p0, p1⟩ := pow_le32 hb.1
  rw [i_size hb.1 hb.2]
  simp only [Option.bind_some, i_in]
  generalize (2 : Int) ^ (32 - b).toNat = z at *
  have hw : wrap64 (wrap64 (a + z) - 1) = a + z - 1 := by unfold wrap64; omega
  rw [hw]
  congr 1
  rw [decide_eq_decide]
  omega

theorem FnExactCovers : laws_FnExactCovers.Pure := by
  intro a b c ip _ _ _ _
  unfold laws_FnExactCovers.f laws_toRange.f
  simp only [Option.bind_some]
  unfold spec_Covers.f impl_Covers.f spec_l02Ip.f impl_isIp.f
  simp only [s_rangeRight, i_rangeRight, Option.bind_some, s_is, i_in]
  by_cases h : rangeOk a b c = true
  · obtain ⟨ha, hb⟩ := rangeOk_of h
    rw [s_covers16 ha hb, i_covers ha hb]
    by_cases h2 : 0 ≤ ip ∧ ip ≤ 4294967295 <;> simp [h, h2]
  · simp [h]

end Go.Proofs.Ytkjchkdifknnbaa.Pure
