/- The plain law of FnExactVxRead: for all arguments that fit the guards its printed function answers true. -/
import Derived.Test.YtboefhiobafijaaPFnExactVxReadx
set_option linter.unusedVariables false
set_option linter.unusedSimpArgs false
namespace Go.Proofs.Ytboefhiobafijaa.Pure
open Go.RowKit Go.Proofs.Ytboefhiobafijaa.PFnExactVxRead Go.Proofs.YtboefhiobafijaaW.PrintWords Go.Proofs.YtboefhiobafijaaW.PrintLast Go.Proofs.YtboefhiobafijaaW.PrintMore

theorem bits_xor_nat (k : IntKind) (a b : Nat) : Go.bits .xor k a b = k.wrap (((a % 2 ^ k.bits) ^^^ (b % 2 ^ k.bits) : Nat) : Int) := by
  simp only [Go.bits, BitVec.ofInt_natCast, BitVec.toNat_xor, BitVec.toNat_ofNat]
theorem bits_or_nat (k : IntKind) (a b : Nat) : Go.bits .or k a b = k.wrap (((a % 2 ^ k.bits) ||| (b % 2 ^ k.bits) : Nat) : Int) := by
  simp only [Go.bits, BitVec.ofInt_natCast, BitVec.toNat_or, BitVec.toNat_ofNat]
theorem bits_and_nat (k : IntKind) (a b : Nat) : Go.bits .and k a b = k.wrap (((a % 2 ^ k.bits) &&& (b % 2 ^ k.bits) : Nat) : Int) := by
  simp only [Go.bits, BitVec.ofInt_natCast, BitVec.toNat_and, BitVec.toNat_ofNat]
theorem wrap_u64 (n : Int) : IntKind.u64.wrap n = n % 18446744073709551616 := by simp [IntKind.wrap, IntKind.bits, IntKind.signed]
theorem wf_i64 {n : Int} (h : (Lit.int .i64 n).wf = true) : -9223372036854775808 ≤ n ∧ n ≤ 9223372036854775807 := by
  simp [Lit.wf, IntKind.signed, IntKind.bits, IntKind.min, IntKind.max] at h
  omega
theorem xor_ones (x : Nat) (h : x < 18446744073709551616) : x ^^^ 18446744073709551615 = 18446744073709551615 - x := by
  have e := BitVec.toNat_not (x := BitVec.ofNat 64 x)
  rw [← BitVec.xor_allOnes, BitVec.toNat_xor, BitVec.toNat_allOnes, BitVec.toNat_ofNat] at e
  rw [Nat.mod_eq_of_lt (by simpa using h)] at e
  simpa using e
theorem wrap64_id {x : Int} (h0 : -9223372036854775808 ≤ x) (h1 : x ≤ 9223372036854775807) : wrap64 x = x := by unfold wrap64; omega
theorem u64_id {x : Int} (h0 : 0 ≤ x) (h1 : x < 18446744073709551616) : IntKind.u64.wrap x = x := by rw [wrap_u64]; omega
theorem tmod_nat (a b : Nat) : Int.tmod (a : Int) (b : Int) = ((a % b : Nat) : Int) := by rw [Int.tmod_eq_emod_of_nonneg (by omega)]; simp
theorem tdiv_nat (a b : Nat) : Int.tdiv (a : Int) (b : Int) = ((a / b : Nat) : Int) := by rw [Int.tdiv_eq_ediv_of_nonneg (by omega)]; simp

def ubStep (n : Nat) (c : Int) : Nat := n * 256 + c.toNat
def ubN (n : Nat) (l : List Int) : Nat := l.foldl ubStep n
theorem bytes_lt (t : ByteArray) {c : Int} (h : c ∈ bytesOf t) : 0 ≤ c ∧ c < 256 := by
  unfold bytesOf at h
  rw [List.mem_map] at h
  obtain ⟨b, _, rfl⟩ := h
  have := b.toNat_lt
  omega
/-- So many bytes that they fit. -/
def fits7 (j n : Nat) : Prop := n < 256 ^ j
theorem pow256 {j : Nat} (h : j ≤ 6) : 256 ^ j ≤ 281474976710656 := by
  have := Nat.pow_le_pow_right (n := 256) (by decide) h
  rwa [show (256 : Nat) ^ 6 = 281474976710656 from by decide] at this
theorem fits7_step {j n : Nat} {c : Nat} (h : fits7 j n) (hj : j < 7) (hc : c < 256) : fits7 (j + 1) (n * 256 + c) ∧ n < 281474976710656 := by
  unfold fits7 at *
  have hp := pow256 (show j ≤ 6 by omega)
  rw [Nat.pow_succ]
  generalize 256 ^ j = p at *
  omega
theorem wrap_a {n : Nat} (h : n < 281474976710656) : wrap64 ((n : Int) * 256) = ((n * 256 : Nat) : Int) := by rw [wrap64_id (by omega) (by omega)]; omega
theorem wrap_b {m : Nat} (h : m < 256) : wrap64 (m : Int) = (m : Int) := wrap64_id (by omega) (by omega)
theorem wrap_c {n m : Nat} (h : n < 281474976710656) (hm : m < 256) : wrap64 (((n * 256 : Nat) : Int) + (m : Int)) = ((n * 256 + m : Nat) : Int) := by rw [wrap64_id (by omega) (by omega)]; omega
theorem or256 {n c : Nat} (hn : n < 281474976710656) (hc : c < 256) : Go.bits .or .i64 ((n * 256 : Nat) : Int) (c : Int) = ((n * 256 + c : Nat) : Int) := by
  rw [bits_or_nat, IntKind.wrap_i64]
  have hb : (2 : Nat) ^ IntKind.i64.bits = 18446744073709551616 := by decide
  rw [hb, Nat.mod_eq_of_lt (by omega : n * 256 < 18446744073709551616), Nat.mod_eq_of_lt (by omega : c < 18446744073709551616)]
  have e := Nat.two_pow_add_eq_or_of_lt (b := c) (i := 8) (by omega) n
  rw [show (2 : Nat) ^ 8 = 256 from by decide, Nat.mul_comm] at e
  rw [← e]
  omega

theorem i_ub : ∀ (l : List Int) (j n : Nat), fits7 j n → j + l.length ≤ 7 → (∀ c ∈ l, 0 ≤ c ∧ c < 256) → l.foldl impl_unbig.step (n : Int) = (ubN n l : Int)
  | [], _, _, _, _, _ => rfl
  | c :: l, j, n, h, hj, hl => by
    have hc := hl c (by simp)
    obtain ⟨m, rfl⟩ := Int.eq_ofNat_of_zero_le hc.1
    simp only [List.length_cons] at hj
    obtain ⟨h1, h2⟩ := fits7_step (c := m) h (by omega) (by omega)
    have ih := i_ub l (j + 1) (n * 256 + m) h1 (by omega) (fun d hd => hl d (by simp [hd]))
    have w1 := wrap_a h2
    have w2 := wrap_b (show m < 256 by omega)
    have e : impl_unbig.step (n : Int) (m : Int) = ((n * 256 + m : Nat) : Int) := by
      unfold impl_unbig.step
      rw [w1, w2, or256 h2 (by omega)]
    show l.foldl impl_unbig.step (impl_unbig.step (n : Int) (m : Int)) = (ubN (n * 256 + m) l : Int)
    rw [e]
    exact ih
theorem i_unbig (t : ByteArray) (ht : t.size ≤ 7) : impl_unbig.f t = some (ubN 0 (bytesOf t) : Int) := by
  unfold impl_unbig.f impl_unbig.go
  rw [if_pos (by omega)]
  have h := i_ub (bytesOf t) 0 0 (by unfold fits7; decide) (by rw [bytesOf_length]; omega) (fun c hc => bytes_lt t hc)
  rw [show ((0 : Nat) : Int) = 0 from rfl] at h
  rw [h]

theorem s_get_l0 (t : ByteArray) : ∀ (d k i n : Nat), t.size = i + d → t.size ≤ 7 → fits7 i n → d < k → spec_l02Get.l0 k t (n : Int) (i : Int) = some (ubN n ((bytesOf t).drop i) : Int) := by
  intro d
  induction d with
  | zero =>
    intro k i n h1 _ _ hk
    obtain ⟨k, rfl⟩ : ∃ m, k = m + 1 := ⟨k - 1, by omega⟩
    rw [spec_l02Get.l0, if_neg (by omega), List.drop_eq_nil_of_le (by rw [bytesOf_length]; omega)]; rfl
  | succ d ih =>
    intro k i n h1 ht hf hk
    obtain ⟨k, rfl⟩ : ∃ m, k = m + 1 := ⟨k - 1, by omega⟩
    have hi : i < (bytesOf t).length := by rw [bytesOf_length]; omega
    have hb : bt t (i : Int) = (bytesOf t)[i] := by
      rw [← rd_bytesOf]; unfold rd; rw [Int.toNat_natCast, List.getD_eq_getElem?_getD, List.getElem?_eq_getElem hi, Option.getD_some]
    have hc := bytes_lt t (List.getElem_mem hi)
    have w : wrap64 ((i : Int) + 1) = ((i + 1 : Nat) : Int) := wrap64_id (by omega) (by omega)
    rw [List.drop_eq_getElem_cons hi, spec_l02Get.l0, if_pos (by omega), if_pos (by omega), hb, w]
    show _ = some (ubN (ubStep n (bytesOf t)[i]) ((bytesOf t).drop (i + 1)) : Int)
    generalize (bytesOf t)[i] = c at *
    obtain ⟨m, rfl⟩ := Int.eq_ofNat_of_zero_le hc.1
    obtain ⟨h2, h3⟩ := fits7_step (c := m) hf (by omega) (by omega)
    have hm : m < 256 := by omega
    clear hb hc
    have w1 := wrap_a h3
    have w2 := wrap_b hm
    have w3 := wrap_c h3 hm
    rw [w1, w2, w3, ih k (i + 1) _ (by omega) ht h2 (by omega)]
    rfl
theorem s_get (k : Nat) (t : ByteArray) (ht : t.size ≤ 7) (hk : 8 ≤ k) : spec_l02Get.f k t = some (ubN 0 (bytesOf t) : Int) := by
  unfold spec_l02Get.f
  exact s_get_l0 t t.size k 0 0 (by omega) ht (by unfold fits7; decide) (by omega)

theorem ext_size (t : ByteArray) (a b : Nat) : (t.extract a b).size ≤ b - a := by
  rw [ByteArray.size_extract]; omega

theorem s_is (a b c : Int) : spec_l02Is.f a b c = some (decide (b ≤ a ∧ a ≤ c)) := by
  unfold spec_l02Is.f; by_cases h : a ≥ b
  · rw [if_pos h]; by_cases h2 : a ≤ c <;> simp [h, h2]
  · rw [if_neg h]; congr 1; symm; apply decide_eq_false; omega

theorem i_in (a b c : Int) : impl_in.f a b c = some (decide (b ≤ a ∧ a ≤ c)) := by
  unfold impl_in.f; by_cases h : b ≤ a
  · rw [if_pos h]; by_cases h2 : a ≤ c <;> simp [h, h2]
  · rw [if_neg h]; congr 1; symm; apply decide_eq_false; omega


def big3 (x : Int) : ByteArray := strOfNums [x / 256 / 256 % 256, x / 256 % 256, x % 256]
theorem and255 {x : Int} (h0 : 0 ≤ x) (h1 : x < 9223372036854775808) : Go.bits .and .i64 x 255 % 256 = x % 256 := by
  obtain ⟨n, rfl⟩ := Int.eq_ofNat_of_zero_le h0
  have e2 : (255 : Int) = ((255 : Nat) : Int) := rfl
  rw [e2, bits_and_nat]
  have hb : (2 : Nat) ^ IntKind.i64.bits = 18446744073709551616 := by decide
  rw [hb, Nat.mod_eq_of_lt (by omega : n < 18446744073709551616), show 255 % 18446744073709551616 = 2 ^ 8 - 1 from by decide, Nat.and_two_pow_sub_one_eq_mod, IntKind.wrap_i64]
  omega
theorem s_big3 {x : Int} (h0 : 0 ≤ x) (h1 : x < 9223372036854775808) (k : Nat) (hk : 4 ≤ k) : spec_l02Put.f k x 3 = some (big3 x) := by
  obtain ⟨k, rfl⟩ : ∃ m, k = m + 4 := ⟨k - 4, by omega⟩
  have w2 : wrap64 2 = 2 := by unfold wrap64; omega
  have w1 : wrap64 (2 - 1) = 1 := by unfold wrap64; omega
  have w0 : wrap64 (1 - 1) = 0 := by unfold wrap64; omega
  have wm : wrap64 (0 - 1) = -1 := by unfold wrap64; omega
  have w3 : wrap64 (3 - 1) = 2 := by unfold wrap64; omega
  unfold spec_l02Put.f
  simp only [spec_l02Put.l0, w3, w2, w1, w0, wm, and255 h0 h1, and255 (show 0 ≤ x / 256 by omega) (by omega), and255 (show 0 ≤ x / 256 / 256 by omega) (by omega)]
  simp [big3, List.replicate, List.set]
theorem i_big3 {x : Int} (k : Nat) (hk : 4 ≤ k) : impl_big.f k x 3 = some (big3 x) := by
  obtain ⟨k, rfl⟩ : ∃ m, k = m + 4 := ⟨k - 4, by omega⟩
  have w2 : wrap64 2 = 2 := by unfold wrap64; omega
  have w1 : wrap64 (2 - 1) = 1 := by unfold wrap64; omega
  have w0 : wrap64 (1 - 1) = 0 := by unfold wrap64; omega
  have wm : wrap64 (0 - 1) = -1 := by unfold wrap64; omega
  have w3 : wrap64 (3 - 1) = 2 := by unfold wrap64; omega
  unfold impl_big.f
  simp only [impl_big.l0, w3, w2, w1, w0, wm]
  simp [big3, List.replicate, List.set]
theorem big3_size (x : Int) : (big3 x).size = 3 := by simp [big3, strOfNums, ByteArray.size]

def vxEnc (v : Int) (t : ByteArray) : ByteArray := if 1 ≤ v ∧ v ≤ 16777215 then (if (t.size : Int) > 74 then ⟨#[]⟩ else (((⟨#[8, 0, 0, 0]⟩ : ByteArray) ++ big3 v) ++ (⟨#[0]⟩ : ByteArray)) ++ t) else ⟨#[]⟩
theorem s_vxBytes (v : Int) (t : ByteArray) (k : Nat) (hk : 4 ≤ k) : spec_VxBytes.f k v t = some (vxEnc v t) := by
  unfold spec_VxBytes.f spec_l02Vni.f vxEnc
  simp only [s_is, Option.bind_some, decide_eq_true_eq]
  by_cases h : 1 ≤ v ∧ v ≤ 16777215
  · rw [if_pos h, if_pos h]
    by_cases h2 : (t.size : Int) > 74
    · rw [if_pos h2, if_pos h2]
    · rw [if_neg h2, if_neg h2, s_big3 (by omega) (by omega) k hk]
      simp only [Option.bind_some, big3_size]
      rw [if_pos (by omega), if_pos (by omega), if_pos (by omega)]
  · rw [if_neg h, if_neg h]
theorem i_vxBytes (v : Int) (t : ByteArray) (k : Nat) (hk : 4 ≤ k) : impl_VxBytes.f k v t = some (vxEnc v t) := by
  unfold impl_VxBytes.f impl_isVni.f vxEnc
  simp only [i_in, Option.bind_some, decide_eq_true_eq]
  by_cases h : 1 ≤ v ∧ v ≤ 16777215
  · rw [if_pos h, if_pos h]
    by_cases h2 : (t.size : Int) > 74
    · rw [if_pos h2, if_pos h2]
    · rw [if_neg h2, if_neg h2, i_big3 k hk]
      simp only [Option.bind_some, big3_size]
      rw [if_pos (by omega), if_pos (by omega), if_pos (by omega)]
  · rw [if_neg h, if_neg h]

--@use unbig_i
--@use unbig_s
--@use extract
--@use vxbytes
theorem FnExactVxRead : laws_FnExactVxRead.Pure := by
  intro t _
  refine ⟨8, ?_⟩
  unfold laws_FnExactVxRead.f spec_VxRead.f impl_VxRead.f impl_isLong.f
  have e1 := ext_size t 4 7
  simp only [Option.bind_some, decide_eq_true_eq]
  by_cases h : (t.size : Int) > 1048576
  · rw [if_pos h]
  · rw [if_neg h]
    by_cases h1 : (t.size : Int) > 8000
    · rw [if_pos h1, if_pos h1]; simp [laws_eqVxOut.f]
    · rw [if_neg h1, if_neg h1]
      by_cases h2 : (t.size : Int) < 8
      · rw [if_pos h2, if_pos h2]; simp [laws_eqVxOut.f]
      · rw [if_neg h2, if_neg h2, s_get 8 _ (by omega) (by omega), i_unbig _ (by omega)]
        simp only [Option.bind_some]
        rw [if_pos (by omega), if_pos (by omega), if_pos (by omega), s_vxBytes _ _ 8 (by omega), i_vxBytes _ _ 8 (by omega)]
        simp only [Option.bind_some]
        by_cases h3 : (vxEnc (ubN 0 (bytesOf (t.extract 4 7)) : Int) (t.extract 8 t.size)).toList = t.toList
        · rw [if_pos h3, if_pos (by omega), if_pos (by omega), if_pos (by omega)]; simp [laws_eqVxOut.f]
        · rw [if_neg h3, if_pos (by omega), if_pos (by omega), if_pos (by omega)]; simp [laws_eqVxOut.f]

end Go.Proofs.Ytboefhiobafijaa.Pure
