/- The plain law of FnExactUnseal: for all arguments that fit the guards its printed function answers true. -/
import Derived.Test.YtboefhiobafijaaPFnExactUnsealx
set_option linter.unusedVariables false
set_option linter.unusedSimpArgs false
namespace Go.Proofs.Ytboefhiobafijaa.Pure
open Go.RowKit Go.Proofs.Ytboefhiobafijaa.PFnExactUnseal Go.Proofs.YtboefhiobafijaaW.PrintWords Go.Proofs.YtboefhiobafijaaW.PrintLast Go.Proofs.YtboefhiobafijaaW.PrintMore

theorem bits_xor_nat (k : IntKind) (a b : Nat) : Go.bits .xor k a b = k.wrap (((a % 2 ^ k.bits) ^^^ (b % 2 ^ k.bits) : Nat) : Int) := by
  simp only [Go.bits, BitVec.ofInt_natCast, BitVec.toNat_xor, BitVec.toNat_ofNat]
theorem bits_or_nat (k : IntKind) (a b : Nat) : Go.bits .or k a b = k.wrap (((a % 2 ^ k.bits) ||| (b % 2 ^ k.bits) : Nat) : Int) := by
  simp only [Go.bits, BitVec.ofInt_natCast, BitVec.toNat_or, BitVec.toNat_ofNat]
theorem bits_and_nat (k : IntKind) (a b : Nat) : Go.bits .and k a b = k.wrap (((a % 2 ^ k.bits) &&& (b % 2 ^ k.bits) : Nat) : Int) := by
  simp only [Go.bits, BitVec.ofInt_natCast, BitVec.toNat_and, BitVec.toNat_ofNat]
theorem wrap_u64 (n : Int) : IntKind.u64.wrap n = n % 18446744073709551616 := by simp [IntKind.wrap, IntKind.bits, IntKind.signed]
theorem wf_i64 {n : Int} (h : (Lit.int .i64 n).wf = true) : -9223372036854775808 ≤ n ∧ n ≤ 9223372036854775807 := by
  simp [Lit.wf, IntKind.signed, IntKind.bits, IntKind.min, IntKind.max] at h
  omega
theorem xor_ones (x : Nat) (h : x < 18446744073709551616) : x ^^^ 18446744073709551615 = 18446744073709551615 - x := by
  have e := BitVec.toNat_not (x := BitVec.ofNat 64 x)
  rw [← BitVec.xor_allOnes, BitVec.toNat_xor, BitVec.toNat_allOnes, BitVec.toNat_ofNat] at e
  rw [Nat.mod_eq_of_lt (by simpa using h)] at e
  simpa using e
theorem wrap64_id {x : Int} (h0 : -9223372036854775808 ≤ x) (h1 : x ≤ 9223372036854775807) : wrap64 x = x := by unfold wrap64; omega
theorem u64_id {x : Int} (h0 : 0 ≤ x) (h1 : x < 18446744073709551616) : IntKind.u64.wrap x = x := by rw [wrap_u64]; omega
theorem tmod_nat (a b : Nat) : Int.tmod (a : Int) (b : Int) = ((a % b : Nat) : Int) := by rw [Int.tmod_eq_emod_of_nonneg (by omega)]; simp
theorem tdiv_nat (a b : Nat) : Int.tdiv (a : Int) (b : Int) = ((a / b : Nat) : Int) := by rw [Int.tdiv_eq_ediv_of_nonneg (by omega)]; simp

def nb (r : Nat) : Nat := if r % 2 = 1 then (r / 2) ^^^ 3988292384 else r / 2
def nbs : Nat → Nat → Nat
  | 0, r => r
  | j + 1, r => nbs j (nb r)
def crcStep (r c : Nat) : Nat := nbs 8 (r ^^^ c)
def crcFold (r : Nat) (l : List Int) : Nat := l.foldl (fun r c => crcStep r c.toNat) r
def crcOf (a : Nat) (t : ByteArray) : Nat := crcFold (a ^^^ 4294967295) (bytesOf t) ^^^ 4294967295
theorem two32 : (2 : Nat) ^ 32 = 4294967296 := by decide
theorem xor_lt {a b : Nat} (ha : a < 4294967296) (hb : b < 4294967296) : a ^^^ b < 4294967296 := by
  have := Nat.xor_lt_two_pow (n := 32) (x := a) (y := b) (by rw [two32]; exact ha) (by rw [two32]; exact hb)
  rwa [two32] at this
theorem nb_lt {r : Nat} (h : r < 4294967296) : nb r < 4294967296 := by
  unfold nb; split
  · exact xor_lt (by omega) (by omega)
  · omega
theorem nbs_lt : ∀ (j : Nat) {r : Nat}, r < 4294967296 → nbs j r < 4294967296
  | 0, _, h => h
  | j + 1, _, h => nbs_lt j (nb_lt h)
theorem byte_lt (t : ByteArray) {c : Int} (h : c ∈ bytesOf t) : 0 ≤ c ∧ c < 256 := by
  unfold bytesOf at h
  rw [List.mem_map] at h
  obtain ⟨b, _, rfl⟩ := h
  have := b.toNat_lt
  omega
theorem crcStep_lt {r c : Nat} (h : r < 4294967296) (hc : c < 256) : crcStep r c < 4294967296 := nbs_lt 8 (xor_lt h (by omega))
theorem crcFold_lt : ∀ (l : List Int) {r : Nat}, r < 4294967296 → (∀ c ∈ l, 0 ≤ c ∧ c < 256) → crcFold r l < 4294967296
  | [], _, h, _ => h
  | c :: l, r, h, hl => by
    have hc := hl c (by simp)
    exact crcFold_lt l (crcStep_lt h (by omega)) (fun d hd => hl d (by simp [hd]))
theorem crcOf_lt {a : Nat} (h : a < 4294967296) (t : ByteArray) : crcOf a t < 4294967296 :=
  xor_lt (crcFold_lt _ (xor_lt h (by omega)) (fun _ hc => byte_lt t hc)) (by omega)
theorem u32_xor {a b : Nat} (ha : a < 4294967296) (hb : b < 4294967296) : Go.bits .xor .u32 (a : Int) (b : Int) = ((a ^^^ b : Nat) : Int) := by
  rw [bits_xor_nat, IntKind.wrap_u32]
  have hb2 : (2 : Nat) ^ IntKind.u32.bits = 4294967296 := by decide
  have hx := xor_lt ha hb
  rw [hb2, Nat.mod_eq_of_lt ha, Nat.mod_eq_of_lt hb]
  omega
theorem u32_and1 {a : Nat} (ha : a < 4294967296) : Go.bits .and .u32 (a : Int) 1 = ((a % 2 : Nat) : Int) := by
  have e2 : (1 : Int) = ((1 : Nat) : Int) := rfl
  rw [e2, bits_and_nat, IntKind.wrap_u32]
  have hb2 : (2 : Nat) ^ IntKind.u32.bits = 4294967296 := by decide
  rw [hb2, Nat.mod_eq_of_lt ha, show 1 % 4294967296 = 2 ^ 1 - 1 from by decide, Nat.and_two_pow_sub_one_eq_mod]
  omega

theorem s_l1 (t : ByteArray) (i : Int) : ∀ (j k x : Nat), j ≤ 8 → x < 4294967296 → spec_l01Crc.l1 (k + j + 1) t (x : Int) i ((8 - j : Nat) : Int) = spec_l01Crc.l0 k t ((nbs j x : Nat) : Int) (wrap64 (i + 1)) := by
  intro j
  induction j with
  | zero =>
    intro k x _ hx
    rw [spec_l01Crc.l1, if_neg (by omega)]; rfl
  | succ j ih =>
    intro k x hj hx
    have e : k + (j + 1) + 1 = (k + j + 1) + 1 := by omega
    have w : wrap64 (((8 - (j + 1) : Nat) : Int) + 1) = ((8 - j : Nat) : Int) := by rw [wrap64_id (by omega) (by omega)]; omega
    have hd : (x : Int) / 2 = ((x / 2 : Nat) : Int) := by omega
    rw [e, spec_l01Crc.l1, if_pos (by omega), u32_and1 hx, w, hd]
    by_cases h : x % 2 = 1
    · rw [if_pos (by omega), show (3988292384 : Int) = ((3988292384 : Nat) : Int) from rfl, u32_xor (by omega) (by omega), ih k _ (by omega) (xor_lt (by omega) (by omega))]
      rw [nbs, nb, if_pos h]
    · rw [if_neg (by omega), ih k _ (by omega) (by omega)]
      rw [nbs, nb, if_neg h]
theorem s_l0 (t : ByteArray) (ht : t.size ≤ 1000000000) : ∀ (d k i x : Nat), t.size = i + d → 10 * d < k → x < 4294967296 → spec_l01Crc.l0 k t (x : Int) (i : Int) = some ((crcFold x ((bytesOf t).drop i) ^^^ 4294967295 : Nat) : Int) := by
  intro d
  induction d with
  | zero =>
    intro k i x h1 hk hx
    obtain ⟨k, rfl⟩ : ∃ m, k = m + 1 := ⟨k - 1, by omega⟩
    have hxx := xor_lt hx (show 4294967295 < 4294967296 by omega)
    rw [spec_l01Crc.l0, if_neg (by omega), List.drop_eq_nil_of_le (by rw [bytesOf_length]; omega), show (4294967295 : Int) = ((4294967295 : Nat) : Int) from rfl, u32_xor hx (by omega), wrap64_id (by omega) (by omega)]
    rfl
  | succ d ih =>
    intro k i x h1 hk hx
    obtain ⟨k, rfl⟩ : ∃ m, k = (m + 8 + 1) + 1 := ⟨k - 10, by omega⟩
    have w : wrap64 ((i : Int) + 1) = ((i + 1 : Nat) : Int) := wrap64_id (by omega) (by omega)
    have hi : i < (bytesOf t).length := by rw [bytesOf_length]; omega
    have hb : bt t (i : Int) = (bytesOf t)[i] := by
      rw [← rd_bytesOf]; unfold rd; rw [Int.toNat_natCast, List.getD_eq_getElem?_getD, List.getElem?_eq_getElem hi, Option.getD_some]
    have hc := byte_lt t (List.getElem_mem hi)
    rw [List.drop_eq_getElem_cons hi]
    rw [spec_l01Crc.l0, if_pos (by omega), if_pos (by omega), hb]
    show _ = some ((crcFold (crcStep x (bytesOf t)[i].toNat) ((bytesOf t).drop (i + 1)) ^^^ 4294967295 : Nat) : Int)
    generalize (bytesOf t)[i] = c at *
    obtain ⟨n, rfl⟩ := Int.eq_ofNat_of_zero_le hc.1
    have hn : (n : Int) % 4294967296 = (n : Int) := by omega
    have hx2 := xor_lt hx (show n < 4294967296 by omega)
    rw [hn, u32_xor hx (by omega), show (0 : Int) = ((8 - 8 : Nat) : Int) from rfl, s_l1 t (i : Int) 8 k _ (by omega) hx2, w, Int.toNat_natCast]
    exact ih k (i + 1) _ (by omega) (by omega) (nbs_lt 8 hx2)
theorem s_crc (k a : Nat) (t : ByteArray) (ha : a < 4294967296) (ht : t.size ≤ 1000000000) (hk : 10 * t.size < k) : spec_l01Crc.f k (a : Int) t = some (crcOf a t : Int) := by
  unfold spec_l01Crc.f
  have e : (a : Int) % 4294967296 = (a : Int) := by omega
  rw [e, show (4294967295 : Int) = ((4294967295 : Nat) : Int) from rfl, u32_xor ha (by omega)]
  have h := s_l0 t ht t.size k 0 (a ^^^ 4294967295) (by omega) hk (xor_lt ha (by omega))
  rw [show ((0 : Nat) : Int) = 0 from rfl, List.drop_zero] at h
  rw [h]; rfl

theorem i_bit {a c : Nat} (ha : a < 4294967296) (hc : c < 256) : impl_crcMore.bit ((a : Int), (c : Int)) = (((if (a ^^^ c) % 2 = 1 then (a / 2) ^^^ 3988292384 else a / 2 : Nat) : Int), ((c / 2 : Nat) : Int)) := by
  unfold impl_crcMore.bit
  have e1 : Go.bits .and .u8 (c : Int) 1 % 4294967296 = ((c % 2 : Nat) : Int) := by
    have e2 : (1 : Int) = ((1 : Nat) : Int) := rfl
    rw [e2, bits_and_nat, IntKind.wrap_u8]
    have hb2 : (2 : Nat) ^ IntKind.u8.bits = 256 := by decide
    rw [hb2, Nat.mod_eq_of_lt hc, show 1 % 256 = 2 ^ 1 - 1 from by decide, Nat.and_two_pow_sub_one_eq_mod]
    omega
  have e3 : (a : Int) / 2 = ((a / 2 : Nat) : Int) := by omega
  have e4 : (c : Int) / 2 = ((c / 2 : Nat) : Int) := by omega
  have e5 : ((a % 2) ^^^ (c % 2)) = (a ^^^ c) % 2 := by
    have := Nat.xor_mod_two_pow (a := a) (b := c) (n := 1)
    simpa using this.symm
  simp only [u32_and1 ha, e1, e3, e4]
  rw [u32_xor (by omega) (by omega), e5]
  by_cases h : (a ^^^ c) % 2 = 1
  · rw [if_pos (by omega), if_pos h, show (3988292384 : Int) = ((3988292384 : Nat) : Int) from rfl, u32_xor (by omega) (by omega)]
  · rw [if_neg (by omega), if_neg h]
theorem i_bits : ∀ (j a c : Nat), a < 4294967296 → c < 256 → ∃ a' : Nat, impl_crcMore.bits j ((a : Int), (c : Int)) = ((a' : Int), ((c / 2 ^ j : Nat) : Int)) ∧ a' < 4294967296 ∧ a' ^^^ (c / 2 ^ j) = nbs j (a ^^^ c)
  | 0, a, c, ha, hc => ⟨a, by simp [impl_crcMore.bits], ha, by simp [nbs]⟩
  | j + 1, a, c, ha, hc => by
    rw [impl_crcMore.bits, i_bit ha hc]
    have hlt : (if (a ^^^ c) % 2 = 1 then (a / 2) ^^^ 3988292384 else a / 2) < 4294967296 := by
      split
      · exact xor_lt (by omega) (by omega)
      · omega
    obtain ⟨a', h1, h2, h3⟩ := i_bits j _ (c / 2) hlt (by omega)
    have e : c / 2 / 2 ^ j = c / 2 ^ (j + 1) := by rw [Nat.div_div_eq_div_mul, Nat.pow_succ, Nat.mul_comm]
    rw [e] at h1 h3
    refine ⟨a', h1, h2, ?_⟩
    rw [h3, nbs, nb]
    congr 1
    have hd : (a ^^^ c) / 2 = a / 2 ^^^ c / 2 := Nat.xor_div_two
    by_cases h : (a ^^^ c) % 2 = 1
    · rw [if_pos h, if_pos h, hd, Nat.xor_assoc, Nat.xor_comm 3988292384, ← Nat.xor_assoc]
    · rw [if_neg h, if_neg h, hd]
theorem i_step {a c : Nat} (ha : a < 4294967296) (hc : c < 256) : impl_crcMore.step (a : Int) (c : Int) = (crcStep a c : Int) := by
  unfold impl_crcMore.step crcStep
  obtain ⟨a', h1, h2, h3⟩ := i_bits 8 a c ha hc
  have e : c / 2 ^ 8 = 0 := by
    rw [show (2 : Nat) ^ 8 = 256 from by decide]; omega
  rw [e, Nat.xor_zero] at h3
  rw [h1, ← h3]
theorem i_fold_crc : ∀ (l : List Int) (a : Nat), a < 4294967296 → (∀ c ∈ l, 0 ≤ c ∧ c < 256) → impl_crcMore.go (a : Int) l = (crcFold a l : Int)
  | [], a, _, _ => rfl
  | c :: l, a, ha, hl => by
    have hc := hl c (by simp)
    obtain ⟨n, rfl⟩ := Int.eq_ofNat_of_zero_le hc.1
    have ih := i_fold_crc l (crcStep a n) (crcStep_lt ha (by omega)) (fun d hd => hl d (by simp [hd]))
    show impl_crcMore.go (impl_crcMore.step (a : Int) (n : Int)) l = (crcFold (crcStep a n) l : Int)
    rw [i_step ha (by omega)]
    exact ih
theorem i_not {a : Nat} (ha : a < 4294967296) : impl_crcMore.not (a : Int) = ((a ^^^ 4294967295 : Nat) : Int) := by
  unfold impl_crcMore.not
  rw [show IntKind.u32.max = ((4294967295 : Nat) : Int) from by decide, u32_xor (by omega) ha, Nat.xor_comm]
theorem i_crc (a : Nat) (t : ByteArray) (ha : a < 4294967296) (ht : t.size ≤ 1000000000) : impl_crcMore.f (a : Int) t = some (crcOf a t : Int) := by
  unfold impl_crcMore.f
  rw [if_pos (by omega), i_not ha, i_fold_crc _ _ (xor_lt ha (by omega)) (fun _ h => byte_lt t h), i_not (crcFold_lt _ (xor_lt ha (by omega)) (fun _ hc => byte_lt t hc))]
  rfl

def four (c : Nat) : ByteArray := strOfNums [(c : Int) % 256, (c : Int) / 256 % 256, (c : Int) / 65536 % 256, (c : Int) / 16777216 % 256]
theorem four_size (c : Nat) : (four c).size = 4 := by simp [four, strOfNums, ByteArray.size]
def sealT (t : ByteArray) : ByteArray := if (t.size : Int) > 7996 then ⟨#[]⟩ else t ++ four (crcOf 0 t)

def unsealT (t : ByteArray) : ByteArray × Int × Int :=
  if (t.size : Int) > 8000 then (⟨#[]⟩, 0, 2) else if (t.size : Int) < 4 then (⟨#[]⟩, 0, 4)
  else if (four (crcOf 0 (t.extract 0 (t.size - 4)))).toList = (t.extract (t.size - 4) t.size).toList then (t.extract 0 (t.size - 4), 0, 0) else (⟨#[]⟩, 0, 5)

theorem ext_size (t : ByteArray) (a b : Nat) : (t.extract a b).size ≤ b - a := by
  rw [ByteArray.size_extract]; omega

theorem s_unseal (k : Nat) (t : ByteArray) (hk : 80000 < k) : spec_Unseal.f k t = some (unsealT t) := by
  unfold spec_Unseal.f unsealT
  by_cases h1 : (t.size : Int) > 8000
  · rw [if_pos h1, if_pos h1]
  · rw [if_neg h1, if_neg h1]
    by_cases h2 : (t.size : Int) < 4
    · rw [if_pos h2, if_pos h2]
    · have w : wrap64 ((t.size : Int) - 4) = ((t.size - 4 : Nat) : Int) := by rw [wrap64_id (by omega) (by omega)]; omega
      have e1 := ext_size t 0 (t.size - 4)
      rw [if_neg h2, if_neg h2, w, if_pos (by omega), if_pos (by omega), Int.toNat_natCast]
      have hs := s_crc k 0 (t.extract 0 (t.size - 4)) (by omega) (by omega) (by omega)
      rw [show ((0 : Nat) : Int) = 0 from rfl] at hs
      rw [hs]
      have e : spec_l01Four.f (crcOf 0 (t.extract 0 (t.size - 4)) : Int) = some (four (crcOf 0 (t.extract 0 (t.size - 4)))) := rfl
      simp only [Option.bind_some, e]
      split <;> rfl

theorem i_sealOf (t : ByteArray) (ht : t.size ≤ 1000000000) : impl_sealOf.f t = some (four (crcOf 0 t)) := by
  unfold impl_sealOf.f
  have h := i_crc 0 t (by omega) ht
  rw [show ((0 : Nat) : Int) = 0 from rfl] at h
  rw [h]; rfl

theorem i_unseal (t : ByteArray) (ht : t.size ≤ 4611686018427387904) : impl_Unseal.f t = some (unsealT t) := by
  unfold impl_Unseal.f impl_isLong.f unsealT
  simp only [Option.bind_some, decide_eq_true_eq]
  by_cases h1 : (t.size : Int) > 8000
  · rw [if_pos h1, if_pos h1]
  · rw [if_neg h1, if_neg h1]
    by_cases h2 : (t.size : Int) < 4
    · have w : wrap64 ((t.size : Int) - 4) = (t.size : Int) - 4 := wrap64_id (by omega) (by omega)
      rw [w, if_pos (by omega), if_pos h2]
    · have w : wrap64 ((t.size : Int) - 4) = ((t.size - 4 : Nat) : Int) := by rw [wrap64_id (by omega) (by omega)]; omega
      have e1 := ext_size t 0 (t.size - 4)
      rw [w, if_neg (by omega), if_neg h2, if_pos (by omega), if_pos (by omega), Int.toNat_natCast, i_sealOf _ (by omega)]
      simp only [Option.bind_some]
      split <;> rfl

--@use unseal_s
--@use unseal_i
theorem FnExactUnseal : laws_FnExactUnseal.Pure := by
  intro t _
  refine ⟨80001, ?_⟩
  unfold laws_FnExactUnseal.f
  by_cases h : (t.size : Int) > 1048576
  · rw [if_pos h]
  · rw [if_neg h, s_unseal 80001 t (by omega), i_unseal t (by omega)]
    simp [laws_eqTextOut.f]

end Go.Proofs.Ytboefhiobafijaa.Pure
