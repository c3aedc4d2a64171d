/- The plain law of FnExactPipeNew: for all arguments that fit the guards its printed function answers true. -/
import Derived.Test.YtkbhdiambabnnaaPFnExactPipeNewx
set_option linter.unusedVariables false
set_option linter.unusedSimpArgs false
namespace Go.Proofs.Ytkbhdiambabnnaa.Pure
open Go.RowKit Go.Proofs.Ytkbhdiambabnnaa.PFnExactPipeNew Go.Proofs.YtkbhdiambabnnaaW.PrintWords Go.Proofs.YtkbhdiambabnnaaW.PrintLast Go.Proofs.YtkbhdiambabnnaaW.PrintMore

theorem bits_xor_nat (k : IntKind) (a b : Nat) : Go.bits .xor k a b = k.wrap (((a % 2 ^ k.bits) ^^^ (b % 2 ^ k.bits) : Nat) : Int) := by
  simp only [Go.bits, BitVec.ofInt_natCast, BitVec.toNat_xor, BitVec.toNat_ofNat]
theorem bits_or_nat (k : IntKind) (a b : Nat) : Go.bits .or k a b = k.wrap (((a % 2 ^ k.bits) ||| (b % 2 ^ k.bits) : Nat) : Int) := by
  simp only [Go.bits, BitVec.ofInt_natCast, BitVec.toNat_or, BitVec.toNat_ofNat]
theorem bits_and_nat (k : IntKind) (a b : Nat) : Go.bits .and k a b = k.wrap (((a % 2 ^ k.bits) &&& (b % 2 ^ k.bits) : Nat) : Int) := by
  simp only [Go.bits, BitVec.ofInt_natCast, BitVec.toNat_and, BitVec.toNat_ofNat]
theorem wrap_u64 (n : Int) : IntKind.u64.wrap n = n % 18446744073709551616 := by simp [IntKind.wrap, IntKind.bits, IntKind.signed]
theorem wf_i64 {n : Int} (h : (Lit.int .i64 n).wf = true) : -9223372036854775808 ≤ n ∧ n ≤ 9223372036854775807 := by
  simp [Lit.wf, IntKind.signed, IntKind.bits, IntKind.min, IntKind.max] at h
  omega
theorem xor_ones (x : Nat) (h : x < 18446744073709551616) : x ^^^ 18446744073709551615 = 18446744073709551615 - x := by
  have e := BitVec.toNat_not (x := BitVec.ofNat 64 x)
  rw [← BitVec.xor_allOnes, BitVec.toNat_xor, BitVec.toNat_allOnes, BitVec.toNat_ofNat] at e
  rw [Nat.mod_eq_of_lt (by simpa using h)] at e
  simpa using e
theorem wrap64_id {x : Int} (h0 : -9223372036854775808 ≤ x) (h1 : x ≤ 9223372036854775807) : wrap64 x = x := by unfold wrap64; omega
theorem u64_id {x : Int} (h0 : 0 ≤ x) (h1 : x < 18446744073709551616) : IntKind.u64.wrap x = x := by rw [wrap_u64]; omega
theorem tmod_nat (a b : Nat) : Int.tmod (a : Int) (b : Int) = ((a % b : Nat) : Int) := by rw [Int.tmod_eq_emod_of_nonneg (by omega)]; simp
theorem tdiv_nat (a b : Nat) : Int.tdiv (a : Int) (b : Int) = ((a / b : Nat) : Int) := by rw [Int.tdiv_eq_ediv_of_nonneg (by omega)]; simp

theorem eqS_nil (k : Nat) : laws_eqStringS.f (k + 1) [] [] = some true := by
  unfold laws_eqStringS.f
  rw [if_pos rfl, laws_eqStringS.l0, if_neg (by simp)]
theorem markS_nil (k : Nat) (m : Int) : laws_markStringS.f (k + 1) [] m = some (m, []) := by
  unfold laws_markStringS.f
  rw [laws_markStringS.l0, if_neg (by simp)]
theorem heldS_nil (k : Nat) (m : Int) : laws_heldStringS.f (k + 1) [] m = some m := by
  unfold laws_heldStringS.f
  rw [laws_heldStringS.l0, if_neg (by simp)]
theorem eqPO (k : Nat) (a b c d : Int) (e : Bool) (f : Int) : laws_eqPipeOut.f (k + 1) a b c d [] [] e f a b c d [] [] e f = some true := by
  unfold laws_eqPipeOut.f laws_eqPipe.f
  rw [if_pos rfl, if_pos rfl, if_pos rfl, if_pos rfl, eqS_nil]
  simp only [Option.bind_some, if_true]
  rw [if_neg (by simp)]
theorem markPO (k : Nat) (a b c d : Int) (e : Bool) (f : Int) : laws_markPipeOut.f (k + 1) a b c d [] [] e f 1 = some (1, [], []) := by
  unfold laws_markPipeOut.f laws_markPipe.f
  rw [markS_nil]
  simp only [Option.bind_some]
  rw [markS_nil]
  rfl
theorem heldPO (k : Nat) (a b c d : Int) (e : Bool) (f : Int) : laws_heldPipeOut.f (k + 1) a b c d [] [] e f 1 = some 1 := by
  unfold laws_heldPipeOut.f laws_heldPipe.f
  rw [heldS_nil, Option.bind_some, if_neg (by omega), Option.bind_some, if_neg (by omega), heldS_nil, Option.bind_some, if_neg (by omega)]

--@use pipeout_nil
theorem new_both (a : Int) : ∃ x0 c, spec_PipeNew.f a = some (x0, 0, 0, 0, [], [], false, c) ∧ impl_PipeNew.f a = some (x0, 0, 0, 0, [], [], false, c) := by
  unfold spec_PipeNew.f impl_PipeNew.f impl_isEpoch.f impl_in.f spec_l02Is.f spec_l05Ill.f
  by_cases h : 1 ≤ a
  · simp only [ge_iff_le, if_pos h]
    by_cases h2 : a ≤ 1000000
    · exact ⟨a, 0, by simp [h2], by simp [h2]⟩
    · exact ⟨0, 1, by simp [h2], by simp [h2]⟩
  · simp only [ge_iff_le, if_neg h]
    exact ⟨0, 1, by simp, by simp⟩
theorem FnExactPipeNew : laws_FnExactPipeNew.Pure := by
  intro a _
  refine ⟨1 + 1, ?_⟩
  obtain ⟨x, c, e1, e2⟩ := new_both a
  unfold laws_FnExactPipeNew.f
  rw [e1, e2]
  simp only [Option.bind_some]
  rw [eqPO, Option.bind_some, if_pos rfl, markPO]
  simp only [Option.bind_some]
  rw [heldPO, Option.bind_some, if_neg (by omega), if_pos rfl]
  simp

end Go.Proofs.Ytkbhdiambabnnaa.Pure
