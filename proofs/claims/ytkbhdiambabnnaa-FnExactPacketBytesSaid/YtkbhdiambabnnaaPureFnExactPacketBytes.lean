/- The plain law of FnExactPacketBytes: for all arguments that fit the guards its printed function answers true. -/
import Derived.Test.YtkbhdiambabnnaaPFnExactPacketBytesx
set_option linter.unusedVariables false
set_option linter.unusedSimpArgs false
namespace Go.Proofs.Ytkbhdiambabnnaa.Pure
open Go.RowKit Go.Proofs.Ytkbhdiambabnnaa.PFnExactPacketBytes Go.Proofs.YtkbhdiambabnnaaW.PrintWords Go.Proofs.YtkbhdiambabnnaaW.PrintLast Go.Proofs.YtkbhdiambabnnaaW.PrintMore

theorem s_is (a b c : Int) : spec_l02Is.f a b c = some (decide (b ≤ a ∧ a ≤ c)) := by
  unfold spec_l02Is.f; by_cases h : a ≥ b
  · rw [if_pos h]; by_cases h2 : a ≤ c <;> simp [h, h2]
  · rw [if_neg h]; congr 1; symm; apply decide_eq_false; omega

theorem i_in (a b c : Int) : impl_in.f a b c = some (decide (b ≤ a ∧ a ≤ c)) := by
  unfold impl_in.f; by_cases h : b ≤ a
  · rw [if_pos h]; by_cases h2 : a ≤ c <;> simp [h, h2]
  · rw [if_neg h]; congr 1; symm; apply decide_eq_false; omega


def packetOk (a b c d : Int) (t : ByteArray) : Bool :=
  decide (1 ≤ a ∧ a ≤ 1000000) && decide (0 ≤ b ∧ b ≤ 1000000) && decide (0 ≤ c ∧ c ≤ 1000000) && decide (0 ≤ d ∧ d ≤ 1000000) && decide ((t.size : Int) ≤ 60) && (decide (c > 0) || (t.toList == ([] : List UInt8)))
theorem s_packetRight (a b c d : Int) (t : ByteArray) : spec_PacketRight.f a b c d t = some (packetOk a b c d t) := by
  unfold spec_PacketRight.f spec_l05Time.f packetOk
  simp only [s_is, Option.bind_some]
  by_cases h1 : 1 ≤ a ∧ a ≤ 1000000
  · by_cases h2 : 0 ≤ b ∧ b ≤ 1000000
    · by_cases h3 : 0 ≤ c ∧ c ≤ 1000000
      · by_cases h4 : 0 ≤ d ∧ d ≤ 1000000
        · by_cases h5 : (t.size : Int) ≤ 60
          · by_cases h6 : c > 0 <;> simp [h1, h2, h3, h4, h5, h6]
          · simp [h1, h2, h3, h4, h5]
        · simp [h1, h2, h3, h4]
      · simp [h1, h2, h3]
    · simp [h1, h2]
  · simp [h1]
theorem i_packetRight (a b c d : Int) (t : ByteArray) : impl_PacketRight.f a b c d t = some (packetOk a b c d t) := by
  unfold impl_PacketRight.f impl_isEpoch.f impl_isTime.f packetOk
  simp only [i_in, Option.bind_some]
  by_cases h1 : 1 ≤ a ∧ a ≤ 1000000
  · by_cases h2 : 0 ≤ b ∧ b ≤ 1000000
    · by_cases h3 : 0 ≤ c ∧ c ≤ 1000000
      · by_cases h4 : 0 ≤ d ∧ d ≤ 1000000
        · by_cases h5 : (t.size : Int) ≤ 60
          · by_cases h6 : c > 0 <;> simp [h1, h2, h3, h4, h5, h6]
          · simp [h1, h2, h3, h4, h5]
        · simp [h1, h2, h3, h4]
      · simp [h1, h2, h3]
    · simp [h1, h2]
  · simp [h1]

theorem bits_xor_nat (k : IntKind) (a b : Nat) : Go.bits .xor k a b = k.wrap (((a % 2 ^ k.bits) ^^^ (b % 2 ^ k.bits) : Nat) : Int) := by
  simp only [Go.bits, BitVec.ofInt_natCast, BitVec.toNat_xor, BitVec.toNat_ofNat]
theorem bits_or_nat (k : IntKind) (a b : Nat) : Go.bits .or k a b = k.wrap (((a % 2 ^ k.bits) ||| (b % 2 ^ k.bits) : Nat) : Int) := by
  simp only [Go.bits, BitVec.ofInt_natCast, BitVec.toNat_or, BitVec.toNat_ofNat]
theorem bits_and_nat (k : IntKind) (a b : Nat) : Go.bits .and k a b = k.wrap (((a % 2 ^ k.bits) &&& (b % 2 ^ k.bits) : Nat) : Int) := by
  simp only [Go.bits, BitVec.ofInt_natCast, BitVec.toNat_and, BitVec.toNat_ofNat]
theorem wrap_u64 (n : Int) : IntKind.u64.wrap n = n % 18446744073709551616 := by simp [IntKind.wrap, IntKind.bits, IntKind.signed]
theorem wf_i64 {n : Int} (h : (Lit.int .i64 n).wf = true) : -9223372036854775808 ≤ n ∧ n ≤ 9223372036854775807 := by
  simp [Lit.wf, IntKind.signed, IntKind.bits, IntKind.min, IntKind.max] at h
  omega
theorem xor_ones (x : Nat) (h : x < 18446744073709551616) : x ^^^ 18446744073709551615 = 18446744073709551615 - x := by
  have e := BitVec.toNat_not (x := BitVec.ofNat 64 x)
  rw [← BitVec.xor_allOnes, BitVec.toNat_xor, BitVec.toNat_allOnes, BitVec.toNat_ofNat] at e
  rw [Nat.mod_eq_of_lt (by simpa using h)] at e
  simpa using e
theorem wrap64_id {x : Int} (h0 : -9223372036854775808 ≤ x) (h1 : x ≤ 9223372036854775807) : wrap64 x = x := by unfold wrap64; omega
theorem u64_id {x : Int} (h0 : 0 ≤ x) (h1 : x < 18446744073709551616) : IntKind.u64.wrap x = x := by rw [wrap_u64]; omega
theorem tmod_nat (a b : Nat) : Int.tmod (a : Int) (b : Int) = ((a % b : Nat) : Int) := by rw [Int.tmod_eq_emod_of_nonneg (by omega)]; simp
theorem tdiv_nat (a b : Nat) : Int.tdiv (a : Int) (b : Int) = ((a / b : Nat) : Int) := by rw [Int.tdiv_eq_ediv_of_nonneg (by omega)]; simp

def vi : Nat → Nat → List Int
  | 0, _ => []
  | f + 1, u => if u < 128 then [(u : Int)] else ((u % 128 + 128 : Nat) : Int) :: vi f (u / 128)
def zz (n : Int) : Nat := (if n < 0 then -2 * n - 1 else 2 * n).toNat
def encN (n : Int) : ByteArray := strOfNums (vi 10 (zz n))
theorem zz_lt {n : Int} (h : -9223372036854775808 ≤ n ∧ n ≤ 9223372036854775807) : zz n < 18446744073709551616 := by
  unfold zz; split <;> omega
theorem zz_cast (n : Int) : (zz n : Int) = if n < 0 then -2 * n - 1 else 2 * n := by
  unfold zz; split <;> omega
theorem pow128 : (128 : Nat) ^ 10 = 1180591620717411303424 := by decide

theorem s_fold {n : Int} (h : -9223372036854775808 ≤ n ∧ n ≤ 9223372036854775807) : spec_l01Fold.f n = some (zz n : Int) := by
  unfold spec_l01Fold.f
  rw [zz_cast]
  by_cases hn : n < 0
  · rw [if_pos hn, if_pos hn]
    have e1 : wrap64 (n + 1) = n + 1 := by unfold wrap64; omega
    have e2 : wrap64 (-(n + 1)) = -(n + 1) := by unfold wrap64; omega
    rw [e1, e2, wrap_u64, wrap_u64, wrap_u64]
    congr 1
    omega
  · rw [if_neg hn, if_neg hn, wrap_u64, wrap_u64]
    congr 1
    omega
theorem s_put_l0 : ∀ (f k u : Nat) (out : List Int), u < 128 ^ (f + 1) → u < 18446744073709551616 → f < k → out.length + f ≤ 100 →
    spec_PutNum.l0 k (u : Int) out = some (strOfNums (out ++ vi (f + 1) u)) := by
  intro f
  induction f with
  | zero =>
    intro k u out h1 _ hk hl
    obtain ⟨k, rfl⟩ : ∃ m, k = m + 1 := ⟨k - 1, by omega⟩
    have hu : u < 128 := by simpa using h1
    simp only [spec_PutNum.l0]
    rw [if_neg (by omega), if_pos (by omega)]
    have e : (u : Int) % 256 = (u : Int) := by omega
    rw [e]
    simp only [vi, if_pos hu]
  | succ f ih =>
    intro k u out h1 h2 hk hl
    obtain ⟨k, rfl⟩ : ∃ m, k = m + 1 := ⟨k - 1, by omega⟩
    by_cases hu : u < 128
    · simp only [spec_PutNum.l0]
      rw [if_neg (by omega), if_pos (by omega)]
      have e : (u : Int) % 256 = (u : Int) := by omega
      rw [e, vi, if_pos hu]
    · simp only [spec_PutNum.l0]
      rw [if_pos (by omega), if_pos (by omega)]
      have e1 : IntKind.u64.wrap (Int.tdiv (u : Int) 128) = ((u / 128 : Nat) : Int) := by
        rw [wrap_u64, Int.tdiv_eq_ediv_of_nonneg (by omega)]; omega
      have e2 : IntKind.u64.wrap (Int.tmod (u : Int) 128 + 128) % 256 = ((u % 128 + 128 : Nat) : Int) := by
        rw [wrap_u64, Int.tmod_eq_emod_of_nonneg (by omega)]; omega
      rw [e1, e2, ih k (u / 128) _ (by rw [Nat.pow_succ] at h1; omega) (by omega) (by omega) (by simp; omega)]
      rw [show vi (f + 1 + 1) u = ((u % 128 + 128 : Nat) : Int) :: vi (f + 1) (u / 128) from by rw [vi, if_neg hu]]
      simp
theorem s_putNum {n : Int} (h : -9223372036854775808 ≤ n ∧ n ≤ 9223372036854775807) (k : Nat) (hk : 10 ≤ k) : spec_PutNum.f k n = some (encN n) := by
  unfold spec_PutNum.f
  rw [s_fold h, Option.bind_some]
  have hz := zz_lt h
  rw [s_put_l0 9 k (zz n) [] (by rw [show 9 + 1 = 10 from rfl, pow128]; omega) hz (by omega) (by simp)]
  rfl

theorem i_fold {n : Int} (h : -9223372036854775808 ≤ n ∧ n ≤ 9223372036854775807) :
    Go.bits .xor .u64 (IntKind.u64.wrap ((IntKind.u64.wrap n) * 2)) (IntKind.u64.wrap (n / 9223372036854775808)) = (zz n : Int) := by
  rw [zz_cast, wrap_u64, wrap_u64, wrap_u64]
  by_cases hn : n < 0
  · rw [if_pos hn]
    have e1 : n % 18446744073709551616 * 2 % 18446744073709551616 = ((2 * n + 18446744073709551616).toNat : Int) := by omega
    have e2 : n / 9223372036854775808 % 18446744073709551616 = ((18446744073709551615 : Nat) : Int) := by omega
    rw [e1, e2, bits_xor_nat, wrap_u64]
    have hb : (2 : Nat) ^ IntKind.u64.bits = 18446744073709551616 := by decide
    rw [hb, Nat.mod_eq_of_lt (by omega : (2 * n + 18446744073709551616).toNat < 18446744073709551616), show 18446744073709551615 % 18446744073709551616 = 18446744073709551615 from by decide, xor_ones _ (by omega)]
    omega
  · rw [if_neg hn]
    have e1 : n % 18446744073709551616 * 2 % 18446744073709551616 = ((2 * n).toNat : Int) := by omega
    have e2 : n / 9223372036854775808 % 18446744073709551616 = ((0 : Nat) : Int) := by omega
    rw [e1, e2, bits_xor_nat, wrap_u64]
    have hb : (2 : Nat) ^ IntKind.u64.bits = 18446744073709551616 := by decide
    rw [hb, Nat.mod_eq_of_lt (by omega : (2 * n).toNat < 18446744073709551616), Nat.zero_mod, Nat.xor_zero]
    omega
set_option maxRecDepth 10000 in
theorem or128 : ∀ b : Nat, b < 256 → b ||| 128 = b % 128 + 128 := by decide +kernel
theorem i_or (u : Nat) : Go.bits .or .u8 ((u : Int) % 256) 128 = ((u % 128 + 128 : Nat) : Int) := by
  have e : (u : Int) % 256 = ((u % 256 : Nat) : Int) := by omega
  have e2 : (128 : Int) = ((128 : Nat) : Int) := rfl
  rw [e, e2, bits_or_nat, IntKind.wrap_u8]
  have hb : (2 : Nat) ^ IntKind.u8.bits = 256 := by decide
  rw [hb, Nat.mod_mod, show 128 % 256 = 128 from rfl, or128 (u % 256) (by omega)]
  omega
theorem i_put_l0 : ∀ (f k u : Nat) (out : List Int), u < 128 ^ (f + 1) → u < 18446744073709551616 → f < k → out.length + f ≤ 100 →
    impl_PutNum.l0 k (u : Int) out = some (strOfNums (out ++ vi (f + 1) u)) := by
  intro f
  induction f with
  | zero =>
    intro k u out h1 _ hk hl
    obtain ⟨k, rfl⟩ : ∃ m, k = m + 1 := ⟨k - 1, by omega⟩
    have hu : u < 128 := by simpa using h1
    simp only [impl_PutNum.l0]
    rw [if_neg (by omega), if_pos (by omega)]
    have e : (u : Int) % 256 = (u : Int) := by omega
    rw [e]
    simp only [vi, if_pos hu]
  | succ f ih =>
    intro k u out h1 h2 hk hl
    obtain ⟨k, rfl⟩ : ∃ m, k = m + 1 := ⟨k - 1, by omega⟩
    by_cases hu : u < 128
    · simp only [impl_PutNum.l0]
      rw [if_neg (by omega), if_pos (by omega)]
      have e : (u : Int) % 256 = (u : Int) := by omega
      rw [e, vi, if_pos hu]
    · simp only [impl_PutNum.l0]
      rw [if_pos (by omega), if_pos (by omega)]
      have e1 : (u : Int) / 128 = ((u / 128 : Nat) : Int) := by omega
      rw [e1, i_or, ih k (u / 128) _ (by rw [Nat.pow_succ] at h1; omega) (by omega) (by omega) (by simp; omega)]
      rw [show vi (f + 1 + 1) u = ((u % 128 + 128 : Nat) : Int) :: vi (f + 1) (u / 128) from by rw [vi, if_neg hu]]
      simp
theorem i_putNum {n : Int} (h : -9223372036854775808 ≤ n ∧ n ≤ 9223372036854775807) (k : Nat) (hk : 10 ≤ k) : impl_PutNum.f k n = some (encN n) := by
  unfold impl_PutNum.f
  rw [i_fold h]
  have hz := zz_lt h
  rw [i_put_l0 9 k (zz n) [] (by rw [show 9 + 1 = 10 from rfl, pow128]; omega) hz (by omega) (by simp)]
  rfl

theorem vi_len : ∀ (f u : Nat), (vi f u).length ≤ f
  | 0, _ => by simp [vi]
  | f + 1, u => by
    rw [vi]; split
    · simp
    · have := vi_len f (u / 128); simp; omega
theorem str_size (xs : List Int) : (strOfNums xs).size = xs.length := by simp [strOfNums, ByteArray.size]
theorem encN_size (n : Int) : (encN n).size ≤ 10 := by
  unfold encN; rw [str_size]; exact vi_len _ _

def encT (t : ByteArray) : ByteArray := if (t.size : Int) > 8000 then ⟨#[]⟩ else encN (t.size : Int) ++ t
theorem s_putText (t : ByteArray) (k : Nat) (hk : 10 ≤ k) : spec_PutText.f k t = some (encT t) := by
  unfold spec_PutText.f encT
  by_cases h2 : (t.size : Int) > 8000
  · rw [if_pos h2, if_pos h2]
  · have hs := encN_size (t.size : Int)
    rw [if_neg h2, if_neg h2, s_putNum (by omega) k hk, Option.bind_some, if_pos (by omega)]

theorem i_putText (t : ByteArray) (k : Nat) (hk : 10 ≤ k) : impl_PutText.f k t = some (encT t) := by
  unfold impl_PutText.f impl_isLong.f encT
  simp only [Option.bind_some, decide_eq_true_eq]
  by_cases h2 : (t.size : Int) > 8000
  · rw [if_pos h2, if_pos h2]
  · have hs := encN_size (t.size : Int)
    rw [if_neg h2, if_neg h2, i_putNum (by omega) k hk, Option.bind_some, if_pos (by omega)]

def nb (r : Nat) : Nat := if r % 2 = 1 then (r / 2) ^^^ 3988292384 else r / 2
def nbs : Nat → Nat → Nat
  | 0, r => r
  | j + 1, r => nbs j (nb r)
def crcStep (r c : Nat) : Nat := nbs 8 (r ^^^ c)
def crcFold (r : Nat) (l : List Int) : Nat := l.foldl (fun r c => crcStep r c.toNat) r
def crcOf (a : Nat) (t : ByteArray) : Nat := crcFold (a ^^^ 4294967295) (bytesOf t) ^^^ 4294967295
theorem two32 : (2 : Nat) ^ 32 = 4294967296 := by decide
theorem xor_lt {a b : Nat} (ha : a < 4294967296) (hb : b < 4294967296) : a ^^^ b < 4294967296 := by
  have := Nat.xor_lt_two_pow (n := 32) (x := a) (y := b) (by rw [two32]; exact ha) (by rw [two32]; exact hb)
  rwa [two32] at this
theorem nb_lt {r : Nat} (h : r < 4294967296) : nb r < 4294967296 := by
  unfold nb; split
  · exact xor_lt (by omega) (by omega)
  · omega
theorem nbs_lt : ∀ (j : Nat) {r : Nat}, r < 4294967296 → nbs j r < 4294967296
  | 0, _, h => h
  | j + 1, _, h => nbs_lt j (nb_lt h)
theorem byte_lt (t : ByteArray) {c : Int} (h : c ∈ bytesOf t) : 0 ≤ c ∧ c < 256 := by
  unfold bytesOf at h
  rw [List.mem_map] at h
  obtain ⟨b, _, rfl⟩ := h
  have := b.toNat_lt
  omega
theorem crcStep_lt {r c : Nat} (h : r < 4294967296) (hc : c < 256) : crcStep r c < 4294967296 := nbs_lt 8 (xor_lt h (by omega))
theorem crcFold_lt : ∀ (l : List Int) {r : Nat}, r < 4294967296 → (∀ c ∈ l, 0 ≤ c ∧ c < 256) → crcFold r l < 4294967296
  | [], _, h, _ => h
  | c :: l, r, h, hl => by
    have hc := hl c (by simp)
    exact crcFold_lt l (crcStep_lt h (by omega)) (fun d hd => hl d (by simp [hd]))
theorem crcOf_lt {a : Nat} (h : a < 4294967296) (t : ByteArray) : crcOf a t < 4294967296 :=
  xor_lt (crcFold_lt _ (xor_lt h (by omega)) (fun _ hc => byte_lt t hc)) (by omega)
theorem u32_xor {a b : Nat} (ha : a < 4294967296) (hb : b < 4294967296) : Go.bits .xor .u32 (a : Int) (b : Int) = ((a ^^^ b : Nat) : Int) := by
  rw [bits_xor_nat, IntKind.wrap_u32]
  have hb2 : (2 : Nat) ^ IntKind.u32.bits = 4294967296 := by decide
  have hx := xor_lt ha hb
  rw [hb2, Nat.mod_eq_of_lt ha, Nat.mod_eq_of_lt hb]
  omega
theorem u32_and1 {a : Nat} (ha : a < 4294967296) : Go.bits .and .u32 (a : Int) 1 = ((a % 2 : Nat) : Int) := by
  have e2 : (1 : Int) = ((1 : Nat) : Int) := rfl
  rw [e2, bits_and_nat, IntKind.wrap_u32]
  have hb2 : (2 : Nat) ^ IntKind.u32.bits = 4294967296 := by decide
  rw [hb2, Nat.mod_eq_of_lt ha, show 1 % 4294967296 = 2 ^ 1 - 1 from by decide, Nat.and_two_pow_sub_one_eq_mod]
  omega

theorem s_l1 (t : ByteArray) (i : Int) : ∀ (j k x : Nat), j ≤ 8 → x < 4294967296 → spec_l01Crc.l1 (k + j + 1) t (x : Int) i ((8 - j : Nat) : Int) = spec_l01Crc.l0 k t ((nbs j x : Nat) : Int) (wrap64 (i + 1)) := by
  intro j
  induction j with
  | zero =>
    intro k x _ hx
    rw [spec_l01Crc.l1, if_neg (by omega)]; rfl
  | succ j ih =>
    intro k x hj hx
    have e : k + (j + 1) + 1 = (k + j + 1) + 1 := by omega
    have w : wrap64 (((8 - (j + 1) : Nat) : Int) + 1) = ((8 - j : Nat) : Int) := by rw [wrap64_id (by omega) (by omega)]; omega
    have hd : (x : Int) / 2 = ((x / 2 : Nat) : Int) := by omega
    rw [e, spec_l01Crc.l1, if_pos (by omega), u32_and1 hx, w, hd]
    by_cases h : x % 2 = 1
    · rw [if_pos (by omega), show (3988292384 : Int) = ((3988292384 : Nat) : Int) from rfl, u32_xor (by omega) (by omega), ih k _ (by omega) (xor_lt (by omega) (by omega))]
      rw [nbs, nb, if_pos h]
    · rw [if_neg (by omega), ih k _ (by omega) (by omega)]
      rw [nbs, nb, if_neg h]
theorem s_l0 (t : ByteArray) (ht : t.size ≤ 1000000000) : ∀ (d k i x : Nat), t.size = i + d → 10 * d < k → x < 4294967296 → spec_l01Crc.l0 k t (x : Int) (i : Int) = some ((crcFold x ((bytesOf t).drop i) ^^^ 4294967295 : Nat) : Int) := by
  intro d
  induction d with
  | zero =>
    intro k i x h1 hk hx
    obtain ⟨k, rfl⟩ : ∃ m, k = m + 1 := ⟨k - 1, by omega⟩
    have hxx := xor_lt hx (show 4294967295 < 4294967296 by omega)
    rw [spec_l01Crc.l0, if_neg (by omega), List.drop_eq_nil_of_le (by rw [bytesOf_length]; omega), show (4294967295 : Int) = ((4294967295 : Nat) : Int) from rfl, u32_xor hx (by omega), wrap64_id (by omega) (by omega)]
    rfl
  | succ d ih =>
    intro k i x h1 hk hx
    obtain ⟨k, rfl⟩ : ∃ m, k = (m + 8 + 1) + 1 := ⟨k - 10, by omega⟩
    have w : wrap64 ((i : Int) + 1) = ((i + 1 : Nat) : Int) := wrap64_id (by omega) (by omega)
    have hi : i < (bytesOf t).length := by rw [bytesOf_length]; omega
    have hb : bt t (i : Int) = (bytesOf t)[i] := by
      rw [← rd_bytesOf]; unfold rd; rw [Int.toNat_natCast, List.getD_eq_getElem?_getD, List.getElem?_eq_getElem hi, Option.getD_some]
    have hc := byte_lt t (List.getElem_mem hi)
    rw [List.drop_eq_getElem_cons hi]
    rw [spec_l01Crc.l0, if_pos (by omega), if_pos (by omega), hb]
    show _ = some ((crcFold (crcStep x (bytesOf t)[i].toNat) ((bytesOf t).drop (i + 1)) ^^^ 4294967295 : Nat) : Int)
    generalize (bytesOf t)[i] = c at *
    obtain ⟨n, rfl⟩ := Int.eq_ofNat_of_zero_le hc.1
    have hn : (n : Int) % 4294967296 = (n : Int) := by omega
    have hx2 := xor_lt hx (show n < 4294967296 by omega)
    rw [hn, u32_xor hx (by omega), show (0 : Int) = ((8 - 8 : Nat) : Int) from rfl, s_l1 t (i : Int) 8 k _ (by omega) hx2, w, Int.toNat_natCast]
    exact ih k (i + 1) _ (by omega) (by omega) (nbs_lt 8 hx2)
theorem s_crc (k a : Nat) (t : ByteArray) (ha : a < 4294967296) (ht : t.size ≤ 1000000000) (hk : 10 * t.size < k) : spec_l01Crc.f k (a : Int) t = some (crcOf a t : Int) := by
  unfold spec_l01Crc.f
  have e : (a : Int) % 4294967296 = (a : Int) := by omega
  rw [e, show (4294967295 : Int) = ((4294967295 : Nat) : Int) from rfl, u32_xor ha (by omega)]
  have h := s_l0 t ht t.size k 0 (a ^^^ 4294967295) (by omega) hk (xor_lt ha (by omega))
  rw [show ((0 : Nat) : Int) = 0 from rfl, List.drop_zero] at h
  rw [h]; rfl

theorem i_bit {a c : Nat} (ha : a < 4294967296) (hc : c < 256) : impl_crcMore.bit ((a : Int), (c : Int)) = (((if (a ^^^ c) % 2 = 1 then (a / 2) ^^^ 3988292384 else a / 2 : Nat) : Int), ((c / 2 : Nat) : Int)) := by
  unfold impl_crcMore.bit
  have e1 : Go.bits .and .u8 (c : Int) 1 % 4294967296 = ((c % 2 : Nat) : Int) := by
    have e2 : (1 : Int) = ((1 : Nat) : Int) := rfl
    rw [e2, bits_and_nat, IntKind.wrap_u8]
    have hb2 : (2 : Nat) ^ IntKind.u8.bits = 256 := by decide
    rw [hb2, Nat.mod_eq_of_lt hc, show 1 % 256 = 2 ^ 1 - 1 from by decide, Nat.and_two_pow_sub_one_eq_mod]
    omega
  have e3 : (a : Int) / 2 = ((a / 2 : Nat) : Int) := by omega
  have e4 : (c : Int) / 2 = ((c / 2 : Nat) : Int) := by omega
  have e5 : ((a % 2) ^^^ (c % 2)) = (a ^^^ c) % 2 := by
    have := Nat.xor_mod_two_pow (a := a) (b := c) (n := 1)
    simpa using this.symm
  simp only [u32_and1 ha, e1, e3, e4]
  rw [u32_xor (by omega) (by omega), e5]
  by_cases h : (a ^^^ c) % 2 = 1
  · rw [if_pos (by omega), if_pos h, show (3988292384 : Int) = ((3988292384 : Nat) : Int) from rfl, u32_xor (by omega) (by omega)]
  · rw [if_neg (by omega), if_neg h]
theorem i_bits : ∀ (j a c : Nat), a < 4294967296 → c < 256 → ∃ a' : Nat, impl_crcMore.bits j ((a : Int), (c : Int)) = ((a' : Int), ((c / 2 ^ j : Nat) : Int)) ∧ a' < 4294967296 ∧ a' ^^^ (c / 2 ^ j) = nbs j (a ^^^ c)
  | 0, a, c, ha, hc => ⟨a, by simp [impl_crcMore.bits], ha, by simp [nbs]⟩
  | j + 1, a, c, ha, hc => by
    rw [impl_crcMore.bits, i_bit ha hc]
    have hlt : (if (a ^^^ c) % 2 = 1 then (a / 2) ^^^ 3988292384 else a / 2) < 4294967296 := by
      split
      · exact xor_lt (by omega) (by omega)
      · omega
    obtain ⟨a', h1, h2, h3⟩ := i_bits j _ (c / 2) hlt (by omega)
    have e : c / 2 / 2 ^ j = c / 2 ^ (j + 1) := by rw [Nat.div_div_eq_div_mul, Nat.pow_succ, Nat.mul_comm]
    rw [e] at h1 h3
    refine ⟨a', h1, h2, ?_⟩
    rw [h3, nbs, nb]
    congr 1
    have hd : (a ^^^ c) / 2 = a / 2 ^^^ c / 2 := Nat.xor_div_two
    by_cases h : (a ^^^ c) % 2 = 1
    · rw [if_pos h, if_pos h, hd, Nat.xor_assoc, Nat.xor_comm 3988292384, ← Nat.xor_assoc]
    · rw [if_neg h, if_neg h, hd]
theorem i_step {a c : Nat} (ha : a < 4294967296) (hc : c < 256) : impl_crcMore.step (a : Int) (c : Int) = (crcStep a c : Int) := by
  unfold impl_crcMore.step crcStep
  obtain ⟨a', h1, h2, h3⟩ := i_bits 8 a c ha hc
  have e : c / 2 ^ 8 = 0 := by
    rw [show (2 : Nat) ^ 8 = 256 from by decide]; omega
  rw [e, Nat.xor_zero] at h3
  rw [h1, ← h3]
theorem i_fold_crc : ∀ (l : List Int) (a : Nat), a < 4294967296 → (∀ c ∈ l, 0 ≤ c ∧ c < 256) → impl_crcMore.go (a : Int) l = (crcFold a l : Int)
  | [], a, _, _ => rfl
  | c :: l, a, ha, hl => by
    have hc := hl c (by simp)
    obtain ⟨n, rfl⟩ := Int.eq_ofNat_of_zero_le hc.1
    have ih := i_fold_crc l (crcStep a n) (crcStep_lt ha (by omega)) (fun d hd => hl d (by simp [hd]))
    show impl_crcMore.go (impl_crcMore.step (a : Int) (n : Int)) l = (crcFold (crcStep a n) l : Int)
    rw [i_step ha (by omega)]
    exact ih
theorem i_not {a : Nat} (ha : a < 4294967296) : impl_crcMore.not (a : Int) = ((a ^^^ 4294967295 : Nat) : Int) := by
  unfold impl_crcMore.not
  rw [show IntKind.u32.max = ((4294967295 : Nat) : Int) from by decide, u32_xor (by omega) ha, Nat.xor_comm]
theorem i_crc (a : Nat) (t : ByteArray) (ha : a < 4294967296) (ht : t.size ≤ 1000000000) : impl_crcMore.f (a : Int) t = some (crcOf a t : Int) := by
  unfold impl_crcMore.f
  rw [if_pos (by omega), i_not ha, i_fold_crc _ _ (xor_lt ha (by omega)) (fun _ h => byte_lt t h), i_not (crcFold_lt _ (xor_lt ha (by omega)) (fun _ hc => byte_lt t hc))]
  rfl

def four (c : Nat) : ByteArray := strOfNums [(c : Int) % 256, (c : Int) / 256 % 256, (c : Int) / 65536 % 256, (c : Int) / 16777216 % 256]
theorem four_size (c : Nat) : (four c).size = 4 := by simp [four, strOfNums, ByteArray.size]
def sealT (t : ByteArray) : ByteArray := if (t.size : Int) > 7996 then ⟨#[]⟩ else t ++ four (crcOf 0 t)

theorem s_seal (k : Nat) (t : ByteArray) (hk : 80000 < k) : spec_Seal.f k t = some (sealT t) := by
  unfold spec_Seal.f sealT
  by_cases h : (t.size : Int) > 7996
  · rw [if_pos h, if_pos h]
  · rw [if_neg h, if_neg h]
    have hs := s_crc k 0 t (by omega) (by omega) (by omega)
    rw [show ((0 : Nat) : Int) = 0 from rfl] at hs
    rw [hs]
    have e : spec_l01Four.f (crcOf 0 t : Int) = some (four (crcOf 0 t)) := rfl
    have hz := four_size (crcOf 0 t)
    simp only [Option.bind_some, e]
    rw [if_pos (by omega)]

theorem i_sealOf (t : ByteArray) (ht : t.size ≤ 1000000000) : impl_sealOf.f t = some (four (crcOf 0 t)) := by
  unfold impl_sealOf.f
  have h := i_crc 0 t (by omega) ht
  rw [show ((0 : Nat) : Int) = 0 from rfl] at h
  rw [h]; rfl

theorem i_seal (t : ByteArray) : impl_Seal.f t = some (sealT t) := by
  unfold impl_Seal.f sealT
  by_cases h : (t.size : Int) > 7996
  · rw [if_pos h, if_pos h]
  · rw [if_neg h, if_neg h, i_sealOf t (by omega)]
    have hz := four_size (crcOf 0 t)
    simp only [Option.bind_some]
    rw [if_pos (by omega)]

def pkBody (a b c d : Int) (t : ByteArray) : ByteArray := (((encN a ++ encN b) ++ encN c) ++ encN d) ++ encT t
def packetBytes (a b c d : Int) (t : ByteArray) : ByteArray := if packetOk a b c d t = true then sealT (pkBody a b c d t) else ⟨#[]⟩
theorem packetOk_bd {a b c d : Int} {t : ByteArray} (h : packetOk a b c d t = true) : (1 ≤ a ∧ a ≤ 1000000) ∧ (0 ≤ b ∧ b ≤ 1000000) ∧ (0 ≤ c ∧ c ≤ 1000000) ∧ (0 ≤ d ∧ d ≤ 1000000) ∧ (t.size : Int) ≤ 60 := by
  unfold packetOk at h
  simp only [Bool.and_eq_true, decide_eq_true_eq] at h
  exact ⟨h.1.1.1.1.1, h.1.1.1.1.2, h.1.1.1.2, h.1.1.2, h.1.2⟩
theorem encT_size (t : ByteArray) : (encT t).size ≤ 10 + t.size := by
  unfold encT
  split
  · show 0 ≤ _; omega
  · have := encN_size (t.size : Int)
    rw [ByteArray.size_append]; omega
theorem s_packetBytes (a b c d : Int) (t : ByteArray) (k : Nat) (hk : 80000 < k) : spec_PacketBytes.f k a b c d t = some (packetBytes a b c d t) := by
  unfold spec_PacketBytes.f packetBytes
  rw [s_packetRight, Option.bind_some]
  by_cases h : packetOk a b c d t = true
  · obtain ⟨ha, hb, hc, hd, ht⟩ := packetOk_bd h
    have z1 := encN_size a; have z2 := encN_size b; have z3 := encN_size c; have z4 := encN_size d; have z5 := encT_size t
    rw [if_pos h, if_pos h, s_putNum (by omega) k (by omega), s_putNum (by omega) k (by omega), s_putNum (by omega) k (by omega), s_putNum (by omega) k (by omega), s_putText t k (by omega)]
    simp only [Option.bind_some]
    rw [if_pos (by omega), if_pos (by omega), if_pos (by omega), if_pos (by omega), s_seal k _ hk]; rfl
  · rw [if_neg h, if_neg h]
theorem i_body {a b c d : Int} {t : ByteArray} (ha : 0 ≤ a ∧ a ≤ 1000000) (hb : 0 ≤ b ∧ b ≤ 1000000) (hc : 0 ≤ c ∧ c ≤ 1000000) (hd : 0 ≤ d ∧ d ≤ 1000000) (ht : t.size ≤ 1000000) (k : Nat) (hk : 10 ≤ k) : impl_Packet_body.f k a b c d t = some (pkBody a b c d t) := by
  have z1 := encN_size a; have z2 := encN_size b; have z3 := encN_size c; have z4 := encN_size d; have z5 := encT_size t
  unfold impl_Packet_body.f
  rw [i_putNum (by omega) k hk, i_putNum (by omega) k hk, i_putNum (by omega) k hk, i_putNum (by omega) k hk, i_putText t k hk]
  simp only [Option.bind_some]
  rw [if_pos (by omega), if_pos (by omega), if_pos (by omega), if_pos (by omega)]; rfl
theorem i_packetBytes (a b c d : Int) (t : ByteArray) (k : Nat) (hk : 10 ≤ k) : impl_PacketBytes.f k a b c d t = some (packetBytes a b c d t) := by
  unfold impl_PacketBytes.f packetBytes
  rw [i_packetRight, Option.bind_some]
  by_cases h : packetOk a b c d t = true
  · obtain ⟨ha, hb, hc, hd, ht⟩ := packetOk_bd h
    rw [if_pos h, if_pos h, i_body (by omega) hb hc hd (by omega) k hk, Option.bind_some, i_seal]; rfl
  · rw [if_neg h, if_neg h]

--@use packetbytes
theorem FnExactPacketBytes : laws_FnExactPacketBytes.Pure := by
  intro a b c d t _ _ _ _ ht
  refine ⟨80001, ?_⟩
  unfold laws_FnExactPacketBytes.f laws_szPacket.f laws_toPacket.f
  simp only [Option.bind_some]
  by_cases h : wrap64 (1048576 - (t.size : Int)) < 0
  · rw [if_pos h]; simp
  · rw [if_neg h, Option.bind_some, if_neg h]
    rw [ s_packetBytes _ _ _ _ _ _ (by omega), i_packetBytes _ _ _ _ _ _ (by omega)]
    simp

end Go.Proofs.Ytkbhdiambabnnaa.Pure
