/- The plain law of FnExactPacketRight: for all arguments that fit the guards its printed function answers true. -/
import Derived.Test.YtkjchkdifknnbaaPFnExactPacketRightx
set_option linter.unusedVariables false
set_option linter.unusedSimpArgs false
namespace Go.Proofs.Ytkjchkdifknnbaa.Pure
open Go.RowKit Go.Proofs.Ytkjchkdifknnbaa.PFnExactPacketRight Go.Proofs.YtkjchkdifknnbaaW.PrintWords Go.Proofs.YtkjchkdifknnbaaW.PrintLast Go.Proofs.YtkjchkdifknnbaaW.PrintMore

theorem s_is (a b c : Int) : spec_l02Is.f a b c = some (decide (b ≤ a ∧ a ≤ c)) := by
  unfold spec_l02Is.f; by_cases h : a ≥ b
  · rw [if_pos h]; by_cases h2 : a ≤ c <;> simp [h, h2]
  · rw [if_neg h]; congr 1; symm; apply decide_eq_false; omega
theorem i_in (a b c : Int) : impl_in.f a b c = some (decide (b ≤ a ∧ a ≤ c)) := by
  unfold impl_in.f; by_cases h : b ≤ a
  · rw [if_pos h]; by_cases h2 : a ≤ c <;> simp [h, h2]
  · rw [if_neg h]; congr 1; symm; apply decide_eq_false; omega

def packetOk (a b c d : Int) (t : ByteArray) : Bool :=
  decide (1 ≤ a ∧ a ≤ 1000000) && decide (0 ≤ b ∧ b ≤ 1000000) && decide (0 ≤ c ∧ c ≤ 1000000) && decide (0 ≤ d ∧ d ≤ 1000000) && decide ((t.size : Int) ≤ 60) && (decide (c > 0) || (t.toList == ([] : List UInt8)))
theorem s_packetRight (a b c d : Int) (t : ByteArray) : spec_PacketRight.f a b c d t = some (packetOk a b c d t) := by
  unfold spec_PacketRight.f spec_l05Time.f packetOk
  simp only [s_is, Option.bind_some]
  by_cases h1 : 1 ≤ a ∧ a ≤ 1000000
  · by_cases h2 : 0 ≤ b ∧ b ≤ 1000000
    · by_cases h3 : 0 ≤ c ∧ c ≤ 1000000
      · by_cases h4 : 0 ≤ d ∧ d ≤ 1000000
        · by_cases h5 : (t.size : Int) ≤ 60
          · by_cases h6 : c > 0 <;> simp [h1, h2, h3, h4, h5, h6]
          · simp [h1, h2, h3, h4, h5]
        · simp [h1, h2, h3, h4]
      · simp [h1, h2, h3]
    · simp [h1, h2]
  · simp [h1]
theorem i_packetRight (a b c d : Int) (t : ByteArray) : impl_PacketRight.f a b c d t = some (packetOk a b c d t) := by
  unfold impl_PacketRight.f impl_isEpoch.f impl_isTime.f packetOk
  simp only [i_in, Option.bind_some]
  by_cases h1 : 1 ≤ a ∧ a ≤ 1000000
  · by_cases h2 : 0 ≤ b ∧ b ≤ 1000000
    · by_cases h3 : 0 ≤ c ∧ c ≤ 1000000
      · by_cases h4 : 0 ≤ d ∧ d ≤ 1000000
        · by_cases h5 : (t.size : Int) ≤ 60
          · by_cases h6 : c > 0 <;> simp [h1, h2, h3, h4, h5, h6]
          · simp [h1, h2, h3, h4, h5]
        · simp [h1, h2, h3, h4]
      · simp [h1, h2, h3]
    · simp [h1, h2]
  · simp [h1]

theorem FnExactPacketRight : laws_FnExactPacketRight.Pure := by
  intro a b c d t _ _ _ _ _
  unfold laws_FnExactPacketRight.f laws_szPacket.f laws_toPacket.f
  by_cases h : wrap64 (1048576 - (t.size : Int)) < 0
  · simp [h]
  · simp [h, s_packetRight, i_packetRight]

end Go.Proofs.Ytkjchkdifknnbaa.Pure
