/- The plain law of FnExactPacketRead: for all arguments that fit the guards its printed function answers true. -/
import Derived.Test.YtkpbfnbdknlghaaPFnExactPacketReadx
set_option linter.unusedVariables false
set_option linter.unusedSimpArgs false
namespace Go.Proofs.Ytkpbfnbdknlghaa.Pure
open Go.RowKit Go.Proofs.Ytkpbfnbdknlghaa.PFnExactPacketRead Go.Proofs.YtkpbfnbdknlghaaW.PrintWords Go.Proofs.YtkpbfnbdknlghaaW.PrintLast Go.Proofs.YtkpbfnbdknlghaaW.PrintMore

theorem s_is (a b c : Int) : spec_l02Is.f a b c = some (decide (b ≤ a ∧ a ≤ c)) := by
  unfold spec_l02Is.f; by_cases h : a ≥ b
  · rw [if_pos h]; by_cases h2 : a ≤ c <;> simp [h, h2]
  · rw [if_neg h]; congr 1; symm; apply decide_eq_false; omega

theorem i_in (a b c : Int) : impl_in.f a b c = some (decide (b ≤ a ∧ a ≤ c)) := by
  unfold impl_in.f; by_cases h : b ≤ a
  · rw [if_pos h]; by_cases h2 : a ≤ c <;> simp [h, h2]
  · rw [if_neg h]; congr 1; symm; apply decide_eq_false; omega


def packetOk (a b c d : Int) (t : ByteArray) : Bool :=
  decide (1 ≤ a ∧ a ≤ 1000000) && decide (0 ≤ b ∧ b ≤ 1000000) && decide (0 ≤ c ∧ c ≤ 1000000) && decide (0 ≤ d ∧ d ≤ 1000000) && decide ((t.size : Int) ≤ 60) && (decide (c > 0) || (t.toList == ([] : List UInt8)))
theorem s_packetRight (a b c d : Int) (t : ByteArray) : spec_PacketRight.f a b c d t = some (packetOk a b c d t) := by
  unfold spec_PacketRight.f spec_l05Time.f packetOk
  simp only [s_is, Option.bind_some]
  by_cases h1 : 1 ≤ a ∧ a ≤ 1000000
  · by_cases h2 : 0 ≤ b ∧ b ≤ 1000000
    · by_cases h3 : 0 ≤ c ∧ c ≤ 1000000
      · by_cases h4 : 0 ≤ d ∧ d ≤ 1000000
        · by_cases h5 : (t.size : Int) ≤ 60
          · by_cases h6 : c > 0 <;> simp [h1, h2, h3, h4, h5, h6]
          · simp [h1, h2, h3, h4, h5]
        · simp [h1, h2, h3, h4]
      · simp [h1, h2, h3]
    · simp [h1, h2]
  · simp [h1]
theorem i_packetRight (a b c d : Int) (t : ByteArray) : impl_PacketRight.f a b c d t = some (packetOk a b c d t) := by
  unfold impl_PacketRight.f impl_isEpoch.f impl_isTime.f packetOk
  simp only [i_in, Option.bind_some]
  by_cases h1 : 1 ≤ a ∧ a ≤ 1000000
  · by_cases h2 : 0 ≤ b ∧ b ≤ 1000000
    · by_cases h3 : 0 ≤ c ∧ c ≤ 1000000
      · by_cases h4 : 0 ≤ d ∧ d ≤ 1000000
        · by_cases h5 : (t.size : Int) ≤ 60
          · by_cases h6 : c > 0 <;> simp [h1, h2, h3, h4, h5, h6]
          · simp [h1, h2, h3, h4, h5]
        · simp [h1, h2, h3, h4]
      · simp [h1, h2, h3]
    · simp [h1, h2]
  · simp [h1]

theorem bits_xor_nat (k : IntKind) (a b : Nat) : Go.bits .xor k a b = k.wrap (((a % 2 ^ k.bits) ^^^ (b % 2 ^ k.bits) : Nat) : Int) := by
  simp only [Go.bits, BitVec.ofInt_natCast, BitVec.toNat_xor, BitVec.toNat_ofNat]
theorem bits_or_nat (k : IntKind) (a b : Nat) : Go.bits .or k a b = k.wrap (((a % 2 ^ k.bits) ||| (b % 2 ^ k.bits) : Nat) : Int) := by
  simp only [Go.bits, BitVec.ofInt_natCast, BitVec.toNat_or, BitVec.toNat_ofNat]
theorem bits_and_nat (k : IntKind) (a b : Nat) : Go.bits .and k a b = k.wrap (((a % 2 ^ k.bits) &&& (b % 2 ^ k.bits) : Nat) : Int) := by
  simp only [Go.bits, BitVec.ofInt_natCast, BitVec.toNat_and, BitVec.toNat_ofNat]
theorem wrap_u64 (n : Int) : IntKind.u64.wrap n = n % 18446744073709551616 := by simp [IntKind.wrap, IntKind.bits, IntKind.signed]
theorem wf_i64 {n : Int} (h : (Lit.int .i64 n).wf = true) : -9223372036854775808 ≤ n ∧ n ≤ 9223372036854775807 := by
  simp [Lit.wf, IntKind.signed, IntKind.bits, IntKind.min, IntKind.max] at h
  omega
theorem xor_ones (x : Nat) (h : x < 18446744073709551616) : x ^^^ 18446744073709551615 = 18446744073709551615 - x := by
  have e := BitVec.toNat_not (x := BitVec.ofNat 64 x)
  rw [← BitVec.xor_allOnes, BitVec.toNat_xor, BitVec.toNat_allOnes, BitVec.toNat_ofNat] at e
  rw [Nat.mod_eq_of_lt (by simpa using h)] at e
  simpa using e
theorem wrap64_id {x : Int} (h0 : -9223372036854775808 ≤ x) (h1 : x ≤ 9223372036854775807) : wrap64 x = x := by unfold wrap64; omega
theorem u64_id {x : Int} (h0 : 0 ≤ x) (h1 : x < 18446744073709551616) : IntKind.u64.wrap x = x := by rw [wrap_u64]; omega
theorem tmod_nat (a b : Nat) : Int.tmod (a : Int) (b : Int) = ((a % b : Nat) : Int) := by rw [Int.tmod_eq_emod_of_nonneg (by omega)]; simp
theorem tdiv_nat (a b : Nat) : Int.tdiv (a : Int) (b : Int) = ((a / b : Nat) : Int) := by rw [Int.tdiv_eq_ediv_of_nonneg (by omega)]; simp

def vi : Nat → Nat → List Int
  | 0, _ => []
  | f + 1, u => if u < 128 then [(u : Int)] else ((u % 128 + 128 : Nat) : Int) :: vi f (u / 128)
def zz (n : Int) : Nat := (if n < 0 then -2 * n - 1 else 2 * n).toNat
def encN (n : Int) : ByteArray := strOfNums (vi 10 (zz n))
theorem zz_lt {n : Int} (h : -9223372036854775808 ≤ n ∧ n ≤ 9223372036854775807) : zz n < 18446744073709551616 := by
  unfold zz; split <;> omega
theorem zz_cast (n : Int) : (zz n : Int) = if n < 0 then -2 * n - 1 else 2 * n := by
  unfold zz; split <;> omega
theorem pow128 : (128 : Nat) ^ 10 = 1180591620717411303424 := by decide

theorem s_fold {n : Int} (h : -9223372036854775808 ≤ n ∧ n ≤ 9223372036854775807) : spec_l01Fold.f n = some (zz n : Int) := by
  unfold spec_l01Fold.f
  rw [zz_cast]
  by_cases hn : n < 0
  · rw [if_pos hn, if_pos hn]
    have e1 : wrap64 (n + 1) = n + 1 := by unfold wrap64; omega
    have e2 : wrap64 (-(n + 1)) = -(n + 1) := by unfold wrap64; omega
    rw [e1, e2, wrap_u64, wrap_u64, wrap_u64]
    congr 1
    omega
  · rw [if_neg hn, if_neg hn, wrap_u64, wrap_u64]
    congr 1
    omega
theorem s_put_l0 : ∀ (f k u : Nat) (out : List Int), u < 128 ^ (f + 1) → u < 18446744073709551616 → f < k → out.length + f ≤ 100 →
    spec_PutNum.l0 k (u : Int) out = some (strOfNums (out ++ vi (f + 1) u)) := by
  intro f
  induction f with
  | zero =>
    intro k u out h1 _ hk hl
    obtain ⟨k, rfl⟩ : ∃ m, k = m + 1 := ⟨k - 1, by omega⟩
    have hu : u < 128 := by simpa using h1
    simp only [spec_PutNum.l0]
    rw [if_neg (by omega), if_pos (by omega)]
    have e : (u : Int) % 256 = (u : Int) := by omega
    rw [e]
    simp only [vi, if_pos hu]
  | succ f ih =>
    intro k u out h1 h2 hk hl
    obtain ⟨k, rfl⟩ : ∃ m, k = m + 1 := ⟨k - 1, by omega⟩
    by_cases hu : u < 128
    · simp only [spec_PutNum.l0]
      rw [if_neg (by omega), if_pos (by omega)]
      have e : (u : Int) % 256 = (u : Int) := by omega
      rw [e, vi, if_pos hu]
    · simp only [spec_PutNum.l0]
      rw [if_pos (by omega), if_pos (by omega)]
      have e1 : IntKind.u64.wrap (Int.tdiv (u : Int) 128) = ((u / 128 : Nat) : Int) := by
        rw [wrap_u64, Int.tdiv_eq_ediv_of_nonneg (by omega)]; omega
      have e2 : IntKind.u64.wrap (Int.tmod (u : Int) 128 + 128) % 256 = ((u % 128 + 128 : Nat) : Int) := by
        rw [wrap_u64, Int.tmod_eq_emod_of_nonneg (by omega)]; omega
      rw [e1, e2, ih k (u / 128) _ (by rw [Nat.pow_succ] at h1; omega) (by omega) (by omega) (by simp; omega)]
      rw [show vi (f + 1 + 1) u = ((u % 128 + 128 : Nat) : Int) :: vi (f + 1) (u / 128) from by rw [vi, if_neg hu]]
      simp
theorem s_putNum {n : Int} (h : -9223372036854775808 ≤ n ∧ n ≤ 9223372036854775807) (k : Nat) (hk : 10 ≤ k) : spec_PutNum.f k n = some (encN n) := by
  unfold spec_PutNum.f
  rw [s_fold h, Option.bind_some]
  have hz := zz_lt h
  rw [s_put_l0 9 k (zz n) [] (by rw [show 9 + 1 = 10 from rfl, pow128]; omega) hz (by omega) (by simp)]
  rfl

theorem i_fold {n : Int} (h : -9223372036854775808 ≤ n ∧ n ≤ 9223372036854775807) :
    Go.bits .xor .u64 (IntKind.u64.wrap ((IntKind.u64.wrap n) * 2)) (IntKind.u64.wrap (n / 9223372036854775808)) = (zz n : Int) := by
  rw [zz_cast, wrap_u64, wrap_u64, wrap_u64]
  by_cases hn : n < 0
  · rw [if_pos hn]
    have e1 : n % 18446744073709551616 * 2 % 18446744073709551616 = ((2 * n + 18446744073709551616).toNat : Int) := by omega
    have e2 : n / 9223372036854775808 % 18446744073709551616 = ((18446744073709551615 : Nat) : Int) := by omega
    rw [e1, e2, bits_xor_nat, wrap_u64]
    have hb : (2 : Nat) ^ IntKind.u64.bits = 18446744073709551616 := by decide
    rw [hb, Nat.mod_eq_of_lt (by omega : (2 * n + 18446744073709551616).toNat < 18446744073709551616), show 18446744073709551615 % 18446744073709551616 = 18446744073709551615 from by decide, xor_ones _ (by omega)]
    omega
  · rw [if_neg hn]
    have e1 : n % 18446744073709551616 * 2 % 18446744073709551616 = ((2 * n).toNat : Int) := by omega
    have e2 : n / 9223372036854775808 % 18446744073709551616 = ((0 : Nat) : Int) := by omega
    rw [e1, e2, bits_xor_nat, wrap_u64]
    have hb : (2 : Nat) ^ IntKind.u64.bits = 18446744073709551616 := by decide
    rw [hb, Nat.mod_eq_of_lt (by omega : (2 * n).toNat < 18446744073709551616), Nat.zero_mod, Nat.xor_zero]
    omega
set_option maxRecDepth 10000 in
theorem or128 : ∀ b : Nat, b < 256 → b ||| 128 = b % 128 + 128 := by decide +kernel
theorem i_or (u : Nat) : Go.bits .or .u8 ((u : Int) % 256) 128 = ((u % 128 + 128 : Nat) : Int) := by
  have e : (u : Int) % 256 = ((u % 256 : Nat) : Int) := by omega
  have e2 : (128 : Int) = ((128 : Nat) : Int) := rfl
  rw [e, e2, bits_or_nat, IntKind.wrap_u8]
  have hb : (2 : Nat) ^ IntKind.u8.bits = 256 := by decide
  rw [hb, Nat.mod_mod, show 128 % 256 = 128 from rfl, or128 (u % 256) (by omega)]
  omega
theorem i_put_l0 : ∀ (f k u : Nat) (out : List Int), u < 128 ^ (f + 1) → u < 18446744073709551616 → f < k → out.length + f ≤ 100 →
    impl_PutNum.l0 k (u : Int) out = some (strOfNums (out ++ vi (f + 1) u)) := by
  intro f
  induction f with
  | zero =>
    intro k u out h1 _ hk hl
    obtain ⟨k, rfl⟩ : ∃ m, k = m + 1 := ⟨k - 1, by omega⟩
    have hu : u < 128 := by simpa using h1
    simp only [impl_PutNum.l0]
    rw [if_neg (by omega), if_pos (by omega)]
    have e : (u : Int) % 256 = (u : Int) := by omega
    rw [e]
    simp only [vi, if_pos hu]
  | succ f ih =>
    intro k u out h1 h2 hk hl
    obtain ⟨k, rfl⟩ : ∃ m, k = m + 1 := ⟨k - 1, by omega⟩
    by_cases hu : u < 128
    · simp only [impl_PutNum.l0]
      rw [if_neg (by omega), if_pos (by omega)]
      have e : (u : Int) % 256 = (u : Int) := by omega
      rw [e, vi, if_pos hu]
    · simp only [impl_PutNum.l0]
      rw [if_pos (by omega), if_pos (by omega)]
      have e1 : (u : Int) / 128 = ((u / 128 : Nat) : Int) := by omega
      rw [e1, i_or, ih k (u / 128) _ (by rw [Nat.pow_succ] at h1; omega) (by omega) (by omega) (by simp; omega)]
      rw [show vi (f + 1 + 1) u = ((u % 128 + 128 : Nat) : Int) :: vi (f + 1) (u / 128) from by rw [vi, if_neg hu]]
      simp
theorem i_putNum {n : Int} (h : -9223372036854775808 ≤ n ∧ n ≤ 9223372036854775807) (k : Nat) (hk : 10 ≤ k) : impl_PutNum.f k n = some (encN n) := by
  unfold impl_PutNum.f
  rw [i_fold h]
  have hz := zz_lt h
  rw [i_put_l0 9 k (zz n) [] (by rw [show 9 + 1 = 10 from rfl, pow128]; omega) hz (by omega) (by simp)]
  rfl

theorem vi_len : ∀ (f u : Nat), (vi f u).length ≤ f
  | 0, _ => by simp [vi]
  | f + 1, u => by
    rw [vi]; split
    · simp
    · have := vi_len f (u / 128); simp; omega
theorem str_size (xs : List Int) : (strOfNums xs).size = xs.length := by simp [strOfNums, ByteArray.size]
theorem encN_size (n : Int) : (encN n).size ≤ 10 := by
  unfold encN; rw [str_size]; exact vi_len _ _

def encT (t : ByteArray) : ByteArray := if (t.size : Int) > 8000 then ⟨#[]⟩ else encN (t.size : Int) ++ t
theorem s_putText (t : ByteArray) (k : Nat) (hk : 10 ≤ k) : spec_PutText.f k t = some (encT t) := by
  unfold spec_PutText.f encT
  by_cases h2 : (t.size : Int) > 8000
  · rw [if_pos h2, if_pos h2]
  · have hs := encN_size (t.size : Int)
    rw [if_neg h2, if_neg h2, s_putNum (by omega) k hk, Option.bind_some, if_pos (by omega)]

theorem i_putText (t : ByteArray) (k : Nat) (hk : 10 ≤ k) : impl_PutText.f k t = some (encT t) := by
  unfold impl_PutText.f impl_isLong.f encT
  simp only [Option.bind_some, decide_eq_true_eq]
  by_cases h2 : (t.size : Int) > 8000
  · rw [if_pos h2, if_pos h2]
  · have hs := encN_size (t.size : Int)
    rw [if_neg h2, if_neg h2, i_putNum (by omega) k hk, Option.bind_some, if_pos (by omega)]

def nb (r : Nat) : Nat := if r % 2 = 1 then (r / 2) ^^^ 3988292384 else r / 2
def nbs : Nat → Nat → Nat
  | 0, r => r
  | j + 1, r => nbs j (nb r)
def crcStep (r c : Nat) : Nat := nbs 8 (r ^^^ c)
def crcFold (r : Nat) (l : List Int) : Nat := l.foldl (fun r c => crcStep r c.toNat) r
def crcOf (a : Nat) (t : ByteArray) : Nat := crcFold (a ^^^ 4294967295) (bytesOf t) ^^^ 4294967295
theorem two32 : (2 : Nat) ^ 32 = 4294967296 := by decide
theorem xor_lt {a b : Nat} (ha : a < 4294967296) (hb : b < 4294967296) : a ^^^ b < 4294967296 := by
  have := Nat.xor_lt_two_pow (n := 32) (x := a) (y := b) (by rw [two32]; exact ha) (by rw [two32]; exact hb)
  rwa [two32] at this
theorem nb_lt {r : Nat} (h : r < 4294967296) : nb r < 4294967296 := by
  unfold nb; split
  · exact xor_lt (by omega) (by omega)
  · omega
theorem nbs_lt : ∀ (j : Nat) {r : Nat}, r < 4294967296 → nbs j r < 4294967296
  | 0, _, h => h
  | j + 1, _, h => nbs_lt j (nb_lt h)
theorem byte_lt (t : ByteArray) {c : Int} (h : c ∈ bytesOf t) : 0 ≤ c ∧ c < 256 := by
  unfold bytesOf at h
  rw [List.mem_map] at h
  obtain ⟨b, _, rfl⟩ := h
  have := b.toNat_lt
  omega
theorem crcStep_lt {r c : Nat} (h : r < 4294967296) (hc : c < 256) : crcStep r c < 4294967296 := nbs_lt 8 (xor_lt h (by omega))
theorem crcFold_lt : ∀ (l : List Int) {r : Nat}, r < 4294967296 → (∀ c ∈ l, 0 ≤ c ∧ c < 256) → crcFold r l < 4294967296
  | [], _, h, _ => h
  | c :: l, r, h, hl => by
    have hc := hl c (by simp)
    exact crcFold_lt l (crcStep_lt h (by omega)) (fun d hd => hl d (by simp [hd]))
theorem crcOf_lt {a : Nat} (h : a < 4294967296) (t : ByteArray) : crcOf a t < 4294967296 :=
  xor_lt (crcFold_lt _ (xor_lt h (by omega)) (fun _ hc => byte_lt t hc)) (by omega)
theorem u32_xor {a b : Nat} (ha : a < 4294967296) (hb : b < 4294967296) : Go.bits .xor .u32 (a : Int) (b : Int) = ((a ^^^ b : Nat) : Int) := by
  rw [bits_xor_nat, IntKind.wrap_u32]
  have hb2 : (2 : Nat) ^ IntKind.u32.bits = 4294967296 := by decide
  have hx := xor_lt ha hb
  rw [hb2, Nat.mod_eq_of_lt ha, Nat.mod_eq_of_lt hb]
  omega
theorem u32_and1 {a : Nat} (ha : a < 4294967296) : Go.bits .and .u32 (a : Int) 1 = ((a % 2 : Nat) : Int) := by
  have e2 : (1 : Int) = ((1 : Nat) : Int) := rfl
  rw [e2, bits_and_nat, IntKind.wrap_u32]
  have hb2 : (2 : Nat) ^ IntKind.u32.bits = 4294967296 := by decide
  rw [hb2, Nat.mod_eq_of_lt ha, show 1 % 4294967296 = 2 ^ 1 - 1 from by decide, Nat.and_two_pow_sub_one_eq_mod]
  omega

theorem s_l1 (t : ByteArray) (i : Int) : ∀ (j k x : Nat), j ≤ 8 → x < 4294967296 → spec_l01Crc.l1 (k + j + 1) t (x : Int) i ((8 - j : Nat) : Int) = spec_l01Crc.l0 k t ((nbs j x : Nat) : Int) (wrap64 (i + 1)) := by
  intro j
  induction j with
  | zero =>
    intro k x _ hx
    rw [spec_l01Crc.l1, if_neg (by omega)]; rfl
  | succ j ih =>
    intro k x hj hx
    have e : k + (j + 1) + 1 = (k + j + 1) + 1 := by omega
    have w : wrap64 (((8 - (j + 1) : Nat) : Int) + 1) = ((8 - j : Nat) : Int) := by rw [wrap64_id (by omega) (by omega)]; omega
    have hd : (x : Int) / 2 = ((x / 2 : Nat) : Int) := by omega
    rw [e, spec_l01Crc.l1, if_pos (by omega), u32_and1 hx, w, hd]
    by_cases h : x % 2 = 1
    · rw [if_pos (by omega), show (3988292384 : Int) = ((3988292384 : Nat) : Int) from rfl, u32_xor (by omega) (by omega), ih k _ (by omega) (xor_lt (by omega) (by omega))]
      rw [nbs, nb, if_pos h]
    · rw [if_neg (by omega), ih k _ (by omega) (by omega)]
      rw [nbs, nb, if_neg h]
theorem s_l0 (t : ByteArray) (ht : t.size ≤ 1000000000) : ∀ (d k i x : Nat), t.size = i + d → 10 * d < k → x < 4294967296 → spec_l01Crc.l0 k t (x : Int) (i : Int) = some ((crcFold x ((bytesOf t).drop i) ^^^ 4294967295 : Nat) : Int) := by
  intro d
  induction d with
  | zero =>
    intro k i x h1 hk hx
    obtain ⟨k, rfl⟩ : ∃ m, k = m + 1 := ⟨k - 1, by omega⟩
    have hxx := xor_lt hx (show 4294967295 < 4294967296 by omega)
    rw [spec_l01Crc.l0, if_neg (by omega), List.drop_eq_nil_of_le (by rw [bytesOf_length]; omega), show (4294967295 : Int) = ((4294967295 : Nat) : Int) from rfl, u32_xor hx (by omega), wrap64_id (by omega) (by omega)]
    rfl
  | succ d ih =>
    intro k i x h1 hk hx
    obtain ⟨k, rfl⟩ : ∃ m, k = (m + 8 + 1) + 1 := ⟨k - 10, by omega⟩
    have w : wrap64 ((i : Int) + 1) = ((i + 1 : Nat) : Int) := wrap64_id (by omega) (by omega)
    have hi : i < (bytesOf t).length := by rw [bytesOf_length]; omega
    have hb : bt t (i : Int) = (bytesOf t)[i] := by
      rw [← rd_bytesOf]; unfold rd; rw [Int.toNat_natCast, List.getD_eq_getElem?_getD, List.getElem?_eq_getElem hi, Option.getD_some]
    have hc := byte_lt t (List.getElem_mem hi)
    rw [List.drop_eq_getElem_cons hi]
    rw [spec_l01Crc.l0, if_pos (by omega), if_pos (by omega), hb]
    show _ = some ((crcFold (crcStep x (bytesOf t)[i].toNat) ((bytesOf t).drop (i + 1)) ^^^ 4294967295 : Nat) : Int)
    generalize (bytesOf t)[i] = c at *
    obtain ⟨n, rfl⟩ := Int.eq_ofNat_of_zero_le hc.1
    have hn : (n : Int) % 4294967296 = (n : Int) := by omega
    have hx2 := xor_lt hx (show n < 4294967296 by omega)
    rw [hn, u32_xor hx (by omega), show (0 : Int) = ((8 - 8 : Nat) : Int) from rfl, s_l1 t (i : Int) 8 k _ (by omega) hx2, w, Int.toNat_natCast]
    exact ih k (i + 1) _ (by omega) (by omega) (nbs_lt 8 hx2)
theorem s_crc (k a : Nat) (t : ByteArray) (ha : a < 4294967296) (ht : t.size ≤ 1000000000) (hk : 10 * t.size < k) : spec_l01Crc.f k (a : Int) t = some (crcOf a t : Int) := by
  unfold spec_l01Crc.f
  have e : (a : Int) % 4294967296 = (a : Int) := by omega
  rw [e, show (4294967295 : Int) = ((4294967295 : Nat) : Int) from rfl, u32_xor ha (by omega)]
  have h := s_l0 t ht t.size k 0 (a ^^^ 4294967295) (by omega) hk (xor_lt ha (by omega))
  rw [show ((0 : Nat) : Int) = 0 from rfl, List.drop_zero] at h
  rw [h]; rfl

theorem i_bit {a c : Nat} (ha : a < 4294967296) (hc : c < 256) : impl_crcMore.bit ((a : Int), (c : Int)) = (((if (a ^^^ c) % 2 = 1 then (a / 2) ^^^ 3988292384 else a / 2 : Nat) : Int), ((c / 2 : Nat) : Int)) := by
  unfold impl_crcMore.bit
  have e1 : Go.bits .and .u8 (c : Int) 1 % 4294967296 = ((c % 2 : Nat) : Int) := by
    have e2 : (1 : Int) = ((1 : Nat) : Int) := rfl
    rw [e2, bits_and_nat, IntKind.wrap_u8]
    have hb2 : (2 : Nat) ^ IntKind.u8.bits = 256 := by decide
    rw [hb2, Nat.mod_eq_of_lt hc, show 1 % 256 = 2 ^ 1 - 1 from by decide, Nat.and_two_pow_sub_one_eq_mod]
    omega
  have e3 : (a : Int) / 2 = ((a / 2 : Nat) : Int) := by omega
  have e4 : (c : Int) / 2 = ((c / 2 : Nat) : Int) := by omega
  have e5 : ((a % 2) ^^^ (c % 2)) = (a ^^^ c) % 2 := by
    have := Nat.xor_mod_two_pow (a := a) (b := c) (n := 1)
    simpa using this.symm
  simp only [u32_and1 ha, e1, e3, e4]
  rw [u32_xor (by omega) (by omega), e5]
  by_cases h : (a ^^^ c) % 2 = 1
  · rw [if_pos (by omega), if_pos h, show (3988292384 : Int) = ((3988292384 : Nat) : Int) from rfl, u32_xor (by omega) (by omega)]
  · rw [if_neg (by omega), if_neg h]
theorem i_bits : ∀ (j a c : Nat), a < 4294967296 → c < 256 → ∃ a' : Nat, impl_crcMore.bits j ((a : Int), (c : Int)) = ((a' : Int), ((c / 2 ^ j : Nat) : Int)) ∧ a' < 4294967296 ∧ a' ^^^ (c / 2 ^ j) = nbs j (a ^^^ c)
  | 0, a, c, ha, hc => ⟨a, by simp [impl_crcMore.bits], ha, by simp [nbs]⟩
  | j + 1, a, c, ha, hc => by
    rw [impl_crcMore.bits, i_bit ha hc]
    have hlt : (if (a ^^^ c) % 2 = 1 then (a / 2) ^^^ 3988292384 else a / 2) < 4294967296 := by
      split
      · exact xor_lt (by omega) (by omega)
      · omega
    obtain ⟨a', h1, h2, h3⟩ := i_bits j _ (c / 2) hlt (by omega)
    have e : c / 2 / 2 ^ j = c / 2 ^ (j + 1) := by rw [Nat.div_div_eq_div_mul, Nat.pow_succ, Nat.mul_comm]
    rw [e] at h1 h3
    refine ⟨a', h1, h2, ?_⟩
    rw [h3, nbs, nb]
    congr 1
    have hd : (a ^^^ c) / 2 = a / 2 ^^^ c / 2 := Nat.xor_div_two
    by_cases h : (a ^^^ c) % 2 = 1
    · rw [if_pos h, if_pos h, hd, Nat.xor_assoc, Nat.xor_comm 3988292384, ← Nat.xor_assoc]
    · rw [if_neg h, if_neg h, hd]
theorem i_step {a c : Nat} (ha : a < 4294967296) (hc : c < 256) : impl_crcMore.step (a : Int) (c : Int) = (crcStep a c : Int) := by
  unfold impl_crcMore.step crcStep
  obtain ⟨a', h1, h2, h3⟩ := i_bits 8 a c ha hc
  have e : c / 2 ^ 8 = 0 := by
    rw [show (2 : Nat) ^ 8 = 256 from by decide]; omega
  rw [e, Nat.xor_zero] at h3
  rw [h1, ← h3]
theorem i_fold_crc : ∀ (l : List Int) (a : Nat), a < 4294967296 → (∀ c ∈ l, 0 ≤ c ∧ c < 256) → impl_crcMore.go (a : Int) l = (crcFold a l : Int)
  | [], a, _, _ => rfl
  | c :: l, a, ha, hl => by
    have hc := hl c (by simp)
    obtain ⟨n, rfl⟩ := Int.eq_ofNat_of_zero_le hc.1
    have ih := i_fold_crc l (crcStep a n) (crcStep_lt ha (by omega)) (fun d hd => hl d (by simp [hd]))
    show impl_crcMore.go (impl_crcMore.step (a : Int) (n : Int)) l = (crcFold (crcStep a n) l : Int)
    rw [i_step ha (by omega)]
    exact ih
theorem i_not {a : Nat} (ha : a < 4294967296) : impl_crcMore.not (a : Int) = ((a ^^^ 4294967295 : Nat) : Int) := by
  unfold impl_crcMore.not
  rw [show IntKind.u32.max = ((4294967295 : Nat) : Int) from by decide, u32_xor (by omega) ha, Nat.xor_comm]
theorem i_crc (a : Nat) (t : ByteArray) (ha : a < 4294967296) (ht : t.size ≤ 1000000000) : impl_crcMore.f (a : Int) t = some (crcOf a t : Int) := by
  unfold impl_crcMore.f
  rw [if_pos (by omega), i_not ha, i_fold_crc _ _ (xor_lt ha (by omega)) (fun _ h => byte_lt t h), i_not (crcFold_lt _ (xor_lt ha (by omega)) (fun _ hc => byte_lt t hc))]
  rfl

def four (c : Nat) : ByteArray := strOfNums [(c : Int) % 256, (c : Int) / 256 % 256, (c : Int) / 65536 % 256, (c : Int) / 16777216 % 256]
theorem four_size (c : Nat) : (four c).size = 4 := by simp [four, strOfNums, ByteArray.size]
def sealT (t : ByteArray) : ByteArray := if (t.size : Int) > 7996 then ⟨#[]⟩ else t ++ four (crcOf 0 t)

theorem s_seal (k : Nat) (t : ByteArray) (hk : 80000 < k) : spec_Seal.f k t = some (sealT t) := by
  unfold spec_Seal.f sealT
  by_cases h : (t.size : Int) > 7996
  · rw [if_pos h, if_pos h]
  · rw [if_neg h, if_neg h]
    have hs := s_crc k 0 t (by omega) (by omega) (by omega)
    rw [show ((0 : Nat) : Int) = 0 from rfl] at hs
    rw [hs]
    have e : spec_l01Four.f (crcOf 0 t : Int) = some (four (crcOf 0 t)) := rfl
    have hz := four_size (crcOf 0 t)
    simp only [Option.bind_some, e]
    rw [if_pos (by omega)]

def pkBody (a b c d : Int) (t : ByteArray) : ByteArray := (((encN a ++ encN b) ++ encN c) ++ encN d) ++ encT t
def packetBytes (a b c d : Int) (t : ByteArray) : ByteArray := if packetOk a b c d t = true then sealT (pkBody a b c d t) else ⟨#[]⟩
theorem packetOk_bd {a b c d : Int} {t : ByteArray} (h : packetOk a b c d t = true) : (1 ≤ a ∧ a ≤ 1000000) ∧ (0 ≤ b ∧ b ≤ 1000000) ∧ (0 ≤ c ∧ c ≤ 1000000) ∧ (0 ≤ d ∧ d ≤ 1000000) ∧ (t.size : Int) ≤ 60 := by
  unfold packetOk at h
  simp only [Bool.and_eq_true, decide_eq_true_eq] at h
  exact ⟨h.1.1.1.1.1, h.1.1.1.1.2, h.1.1.1.2, h.1.1.2, h.1.2⟩
theorem encT_size (t : ByteArray) : (encT t).size ≤ 10 + t.size := by
  unfold encT
  split
  · show 0 ≤ _; omega
  · have := encN_size (t.size : Int)
    rw [ByteArray.size_append]; omega
theorem s_packetBytes (a b c d : Int) (t : ByteArray) (k : Nat) (hk : 80000 < k) : spec_PacketBytes.f k a b c d t = some (packetBytes a b c d t) := by
  unfold spec_PacketBytes.f packetBytes
  rw [s_packetRight, Option.bind_some]
  by_cases h : packetOk a b c d t = true
  · obtain ⟨ha, hb, hc, hd, ht⟩ := packetOk_bd h
    have z1 := encN_size a; have z2 := encN_size b; have z3 := encN_size c; have z4 := encN_size d; have z5 := encT_size t
    rw [if_pos h, if_pos h, s_putNum (by omega) k (by omega), s_putNum (by omega) k (by omega), s_putNum (by omega) k (by omega), s_putNum (by omega) k (by omega), s_putText t k (by omega)]
    simp only [Option.bind_some]
    rw [if_pos (by omega), if_pos (by omega), if_pos (by omega), if_pos (by omega), s_seal k _ hk]; rfl
  · rw [if_neg h, if_neg h]
theorem i_body {a b c d : Int} {t : ByteArray} (ha : 0 ≤ a ∧ a ≤ 1000000) (hb : 0 ≤ b ∧ b ≤ 1000000) (hc : 0 ≤ c ∧ c ≤ 1000000) (hd : 0 ≤ d ∧ d ≤ 1000000) (ht : t.size ≤ 1000000) (k : Nat) (hk : 10 ≤ k) : impl_Packet_body.f k a b c d t = some (pkBody a b c d t) := by
  have z1 := encN_size a; have z2 := encN_size b; have z3 := encN_size c; have z4 := encN_size d; have z5 := encT_size t
  unfold impl_Packet_body.f
  rw [i_putNum (by omega) k hk, i_putNum (by omega) k hk, i_putNum (by omega) k hk, i_putNum (by omega) k hk, i_putText t k hk]
  simp only [Option.bind_some]
  rw [if_pos (by omega), if_pos (by omega), if_pos (by omega), if_pos (by omega)]; rfl

def unzz (u : Nat) : Int := if u % 2 = 1 then -((u / 2 : Nat) : Int) - 1 else ((u / 2 : Nat) : Int)
def gdec : Nat → ByteArray → Int → Nat → Nat → Int × Int × Int
  | 0, _, _, _, _ => (0, 0, 3)
  | f + 1, s, a, i, u =>
    if a + i ≥ (s.size : Int) then (0, 0, 4)
    else if i = 9 ∧ bt s (a + i) > 1 then (0, 0, 3)
    else if bt s (a + i) ≥ 128 then gdec f s a (i + 1) (u + (bt s (a + i)).toNat % 128 * 2 ^ (7 * i))
    else if bt s (a + i) = 0 ∧ i > 0 then (0, 0, 3)
    else (unzz (u + (bt s (a + i)).toNat % 128 * 2 ^ (7 * i)), a + i + 1, 0)
def gnum (s : ByteArray) (a : Int) : Int × Int × Int := if (s.size : Int) > 8000 then (0, 0, 2) else if a < 0 then (0, 0, 1) else gdec 10 s a 0 0
theorem pow7 (i : Nat) (hi : i ≤ 9) : (2 : Nat) ^ (7 * i) ≤ 9223372036854775808 := by
  have := Nat.pow_le_pow_right (n := 2) (by decide) (show 7 * i ≤ 63 by omega)
  rwa [show (2 : Nat) ^ 63 = 9223372036854775808 from by decide] at this
theorem pow7s (i : Nat) : (2 : Nat) ^ (7 * (i + 1)) = 128 * 2 ^ (7 * i) := by
  rw [Nat.mul_add, Nat.pow_add, Nat.mul_comm]
/-- One more group fits. -/
theorem group_lt {u c i : Nat} (hi : i ≤ 9) (hu : u < 2 ^ (7 * i)) (hc : i = 9 → c ≤ 1) : c % 128 * 2 ^ (7 * i) < 18446744073709551616 ∧ u + c % 128 * 2 ^ (7 * i) < 18446744073709551616 ∧ (i < 9 → u + c % 128 * 2 ^ (7 * i) < 2 ^ (7 * (i + 1))) := by
  have hm : c % 128 < 128 := Nat.mod_lt _ (by decide)
  rcases Nat.lt_or_ge i 9 with h | h
  · have h8 : (2 : Nat) ^ (7 * i) ≤ 72057594037927936 := by
      have := Nat.pow_le_pow_right (n := 2) (by decide) (show 7 * i ≤ 56 by omega)
      rwa [show (2 : Nat) ^ 56 = 72057594037927936 from by decide] at this
    have hs := pow7s i
    rw [hs]
    have h1 : c % 128 * 2 ^ (7 * i) ≤ 127 * 2 ^ (7 * i) := Nat.mul_le_mul_right _ (by omega)
    generalize 2 ^ (7 * i) = z at *
    generalize c % 128 * z = y at *
    omega
  · obtain rfl : i = 9 := by omega
    have hc := hc rfl
    have e : c % 128 = c := Nat.mod_eq_of_lt (by omega)
    have e9 : (2 : Nat) ^ (7 * 9) = 9223372036854775808 := by decide
    have h1 : c % 128 * 2 ^ (7 * 9) ≤ 9223372036854775808 := by
      rw [e, e9]; exact Nat.le_trans (Nat.mul_le_mul_right _ hc) (by decide)
    rw [e9] at hu
    generalize c % 128 * 2 ^ (7 * 9) = y at *
    clear e e9
    exact ⟨by omega, by omega, fun h => absurd h (by omega)⟩
theorem shl_u64 {x i : Nat} (hi : i ≤ 9) (hx : x * 2 ^ (7 * i) < 18446744073709551616) {y : Int} (hy : y = 7 * (i : Int)) : shl .u64 (x : Int) y = ((x * 2 ^ (7 * i) : Nat) : Int) := by
  subst hy
  unfold shl
  have hb : IntKind.u64.bits = 64 := rfl
  have e : min (7 * (i : Int)).toNat 64 = 7 * i := by omega
  rw [hb, e, wrap_u64]
  have e2 : (x : Int) * 2 ^ (7 * i) = ((x * 2 ^ (7 * i) : Nat) : Int) := by simp
  rw [e2]
  omega

theorem unzz_zz (n : Int) : unzz (zz n) = n := by
  have h := zz_cast n
  unfold unzz
  by_cases hn : n < 0
  · rw [if_pos hn] at h; rw [if_pos (by omega)]; omega
  · rw [if_neg hn] at h; rw [if_neg (by omega)]; omega
theorem vi_byte : ∀ (f u : Nat) (c : Int), c ∈ vi f u → 0 ≤ c ∧ c < 256
  | 0, _, c, h => by simp [vi] at h
  | f + 1, u, c, h => by
    rw [vi] at h
    by_cases hu : u < 128
    · rw [if_pos hu] at h; simp only [List.mem_singleton] at h; omega
    · rw [if_neg hu, List.mem_cons] at h
      rcases h with h | h
      · omega
      · exact vi_byte f _ c h
theorem vi_pos (f u : Nat) : 0 < (vi (f + 1) u).length := by
  rw [vi]; split <;> simp
theorem bt_of (s : ByteArray) (i : Int) : bt s i = (bytesOf s).getD i.toNat 0 := by
  unfold bt bytesOf
  by_cases h : i.toNat < s.size
  · rw [dif_pos h, List.getD_eq_getElem?_getD, List.getElem?_map, List.getElem?_eq_getElem (show i.toNat < s.data.toList.length from h)]
    rfl
  · rw [dif_neg h, List.getD_eq_getElem?_getD, List.getElem?_eq_none (by rw [List.length_map]; exact Nat.le_of_not_lt h)]
    rfl
theorem bytes_app (a b : ByteArray) : bytesOf (a ++ b) = bytesOf a ++ bytesOf b := by simp [bytesOf]
theorem bytes_str {xs : List Int} (h : ∀ c ∈ xs, 0 ≤ c ∧ c < 256) : bytesOf (strOfNums xs) = xs := by
  unfold bytesOf strOfNums
  simp only [List.map_map]
  have : ∀ c ∈ xs, ((fun b : UInt8 => (b.toNat : Int)) ∘ fun n : Int => UInt8.ofNat n.toNat) c = id c := by
    intro c hc
    have := h c hc
    simp only [Function.comp, id, UInt8.toNat_ofNat']
    omega
  rw [List.map_congr_left this, List.map_id]
theorem bytes_len (s : ByteArray) : (bytesOf s).length = s.size := by
  unfold bytesOf; rw [List.length_map]; rfl
theorem bytes_ext (s : ByteArray) (b : Nat) : bytesOf (s.extract 0 b) = (bytesOf s).take b := by
  unfold bytesOf
  rw [ByteArray.data_extract, Array.toList_extract]
  simp [List.map_take]
theorem bytes_encN (n : Int) : bytesOf (encN n) = vi 10 (zz n) := bytes_str (fun c h => vi_byte _ _ c h)
theorem split128 (v z : Nat) : v % 128 * z + v / 128 * (128 * z) = v * z := by
  have h := Nat.mod_add_div v 128
  calc v % 128 * z + v / 128 * (128 * z) = (v % 128 + 128 * (v / 128)) * z := by rw [Nat.add_mul, Nat.mul_comm 128 (v / 128), Nat.mul_assoc]
    _ = v * z := by rw [h]
theorem last_group {v : Nat} (h : v * 2 ^ (7 * 9) < 18446744073709551616) : v ≤ 1 := by
  rw [show (2 : Nat) ^ (7 * 9) = 9223372036854775808 from by decide] at h; omega
theorem no_group {v : Nat} (h : v * 2 ^ (7 * 10) < 18446744073709551616) : v = 0 := by
  rw [show (2 : Nat) ^ (7 * 10) = 1180591620717411303424 from by decide] at h; omega
theorem next_group {v i : Nat} (h : v * 2 ^ (7 * i) < 18446744073709551616) : v / 128 * 2 ^ (7 * (i + 1)) < 18446744073709551616 := by
  have e := split128 v (2 ^ (7 * i))
  rw [pow7s]
  generalize v * 2 ^ (7 * i) = p at *
  generalize v / 128 * (128 * 2 ^ (7 * i)) = q at *
  generalize v % 128 * 2 ^ (7 * i) = r at *
  omega
theorem gdec_vi (s : ByteArray) (a : Int) : ∀ (f i u v : Nat), i + f = 10 → v * 2 ^ (7 * i) < 18446744073709551616 → (i > 0 → v > 0) →
    (∀ j : Nat, j < (vi f v).length → a + (i + j : Nat) < (s.size : Int) ∧ bt s (a + (i + j : Nat)) = (vi f v).getD j 0) →
    gdec f s a i u = (unzz (u + v * 2 ^ (7 * i)), a + (i : Int) + ((vi f v).length : Int), 0) := by
  intro f
  induction f with
  | zero =>
    intro i u v hi hv hp _
    obtain rfl : i = 10 := by omega
    have := no_group hv
    exact absurd (hp (by omega)) (by omega)
  | succ f ih =>
    intro i u v hi hv hp H
    have h0 := H 0 (vi_pos f v)
    rw [Nat.add_zero] at h0
    obtain ⟨h1, h2⟩ := h0
    have h9 : i = 9 → v ≤ 1 := by
      intro h; subst h; exact last_group hv
    rw [gdec, if_neg (by omega)]
    by_cases hu : v < 128
    · have e : vi (f + 1) v = [(v : Int)] := by rw [vi, if_pos hu]
      rw [e] at h2 ⊢
      have h3 : bt s (a + (i : Int)) = (v : Int) := h2
      rw [h3, if_neg (by omega), if_neg (by omega), if_neg (by omega), Int.toNat_natCast, Nat.mod_eq_of_lt hu]
      rfl
    · have e : vi (f + 1) v = ((v % 128 + 128 : Nat) : Int) :: vi f (v / 128) := by rw [vi, if_neg hu]
      rw [e] at h2 H ⊢
      have h3 : bt s (a + (i : Int)) = ((v % 128 + 128 : Nat) : Int) := h2
      rw [h3, if_neg (by omega), if_pos (by omega), Int.toNat_natCast]
      have e1 : (v % 128 + 128) % 128 = v % 128 := by omega
      rw [e1, ih (i + 1) _ (v / 128) (by omega) (next_group hv) (by omega) (by
        intro j hj
        have := H (j + 1) (by simpa using hj)
        rw [show i + (j + 1) = i + 1 + j from by omega] at this
        simpa using this)]
      have e2 := split128 v (2 ^ (7 * i))
      rw [← pow7s] at e2
      rw [Nat.add_assoc, e2, List.length_cons]
      congr 2
      omega
theorem gdec_short (s : ByteArray) (a : Int) : ∀ (f i u v : Nat), i + f = 10 → v * 2 ^ (7 * i) < 18446744073709551616 → (i > 0 → v > 0) →
    (s.size : Int) = a + (i : Int) + (((vi f v).length - 1 : Nat) : Int) →
    (∀ j : Nat, j < (vi f v).length - 1 → bt s (a + (i + j : Nat)) = (vi f v).getD j 0) →
    gdec f s a i u = (0, 0, 4) := by
  intro f
  induction f with
  | zero =>
    intro i u v hi hv hp _ _
    obtain rfl : i = 10 := by omega
    have := no_group hv
    exact absurd (hp (by omega)) (by omega)
  | succ f ih =>
    intro i u v hi hv hp hs H
    have h9 : i = 9 → v ≤ 1 := by
      intro h; subst h; exact last_group hv
    by_cases hu : v < 128
    · have e : vi (f + 1) v = [(v : Int)] := by rw [vi, if_pos hu]
      rw [e] at hs
      rw [gdec, if_pos (by simp at hs; omega)]
    · have e : vi (f + 1) v = ((v % 128 + 128 : Nat) : Int) :: vi f (v / 128) := by rw [vi, if_neg hu]
      obtain ⟨f, rfl⟩ : ∃ q, f = q + 1 := ⟨f - 1, by omega⟩
      have hl := vi_pos f (v / 128)
      rw [e] at H hs
      simp only [List.length_cons, Nat.add_sub_cancel] at H hs
      have h3 : bt s (a + (i : Int)) = ((v % 128 + 128 : Nat) : Int) := H 0 hl
      rw [gdec, if_neg (by omega), h3, if_neg (by omega), if_pos (by omega)]
      exact ih (i + 1) _ (v / 128) (by omega) (next_group hv) (by omega) (by omega) (by
        intro j hj
        have := H (j + 1) (by omega)
        rw [show i + (j + 1) = i + 1 + j from by omega] at this
        simpa using this)
/-- A number that stands somewhere in a text is got from there. -/
theorem gnum_at {s : ByteArray} {a n : Int} (hs : (s.size : Int) ≤ 8000) (ha : 0 ≤ a) (hn : -9223372036854775808 ≤ n ∧ n ≤ 9223372036854775807)
    (H : ∀ j : Nat, j < (vi 10 (zz n)).length → a + (j : Int) < (s.size : Int) ∧ bt s (a + (j : Int)) = (vi 10 (zz n)).getD j 0) :
    gnum s a = (n, a + ((encN n).size : Int), 0) := by
  have hz := zz_lt hn
  unfold gnum
  rw [if_neg (by omega), if_neg (by omega), gdec_vi s a 10 0 0 (zz n) (by omega) (by simpa using hz) (by omega) (by simpa using H)]
  unfold encN
  rw [str_size]
  simp [unzz_zz]
theorem gnum_short {s : ByteArray} {n : Int} (hn : -9223372036854775808 ≤ n ∧ n ≤ 9223372036854775807) (hs : s.size = (vi 10 (zz n)).length - 1)
    (H : ∀ j : Nat, j < (vi 10 (zz n)).length - 1 → bt s (j : Int) = (vi 10 (zz n)).getD j 0) :
    gnum s 0 = (0, 0, 4) := by
  have hz := zz_lt hn
  have hl := vi_len 10 (zz n)
  unfold gnum
  rw [if_neg (by omega), if_neg (by omega), gdec_short s 0 10 0 0 (zz n) (by omega) (by simpa using hz) (by omega) (by omega) (by simpa using H)]
theorem bt_mid (p q : ByteArray) (n : Int) (j : Nat) (h : j < (vi 10 (zz n)).length) : bt ((p ++ encN n) ++ q) ((p.size : Int) + (j : Int)) = (vi 10 (zz n)).getD j 0 := by
  rw [bt_of, bytes_app, bytes_app, bytes_encN]
  have hl := bytes_len p
  have e : ((p.size : Int) + (j : Int)).toNat = p.size + j := by omega
  rw [e, List.getD_eq_getElem?_getD, List.getD_eq_getElem?_getD, List.append_assoc, List.getElem?_append_right (by omega), hl, Nat.add_sub_cancel_left, List.getElem?_append_left h]
theorem encN_len (n : Int) : (encN n).size = (vi 10 (zz n)).length := by unfold encN; rw [str_size]
theorem gnum_mid {p q : ByteArray} {n : Int} (hs : (((p ++ encN n) ++ q).size : Int) ≤ 8000) (hn : -9223372036854775808 ≤ n ∧ n ≤ 9223372036854775807) :
    gnum ((p ++ encN n) ++ q) (p.size : Int) = (n, (p.size : Int) + ((encN n).size : Int), 0) := by
  have e : ((p ++ encN n) ++ q).size = p.size + (encN n).size + q.size := by simp
  have e2 := encN_len n
  exact gnum_at hs (by omega) hn (fun j hj => ⟨by omega, bt_mid p q n j hj⟩)
theorem gnum_cut {n : Int} (hn : -9223372036854775808 ≤ n ∧ n ≤ 9223372036854775807) (m : Nat) (hm : m = (encN n).size - 1) : gnum ((encN n).extract 0 m) 0 = (0, 0, 4) := by
  subst hm
  have hl := encN_len n
  refine gnum_short hn (by rw [ByteArray.size_extract]; omega) ?_
  intro j hj
  rw [bt_of, bytes_ext, bytes_encN, Int.toNat_natCast, List.getD_eq_getElem?_getD, List.getD_eq_getElem?_getD, List.getElem?_take_of_lt (by omega)]

/-- A number that stands in a text is got from there. -/
theorem rd_step {s p q : ByteArray} {n : Int} (h : s = p ++ (encN n ++ q)) (hs : (s.size : Int) ≤ 8000) (hn : -9223372036854775808 ≤ n ∧ n ≤ 9223372036854775807) :
    gnum s (p.size : Int) = (n, ((p ++ encN n).size : Int), 0) ∧ s = (p ++ encN n) ++ q := by
  rw [← ByteArray.append_assoc] at h
  subst h
  rw [gnum_mid hs hn, ByteArray.size_append]
  exact ⟨by rw [Int.natCast_add], rfl⟩
theorem gnum_empty : gnum ⟨#[]⟩ 0 = (0, 0, 4) := by decide +kernel

theorem s_fin (z : Nat) (g2 : z < 18446744073709551616) (x : Int) :
    (if Int.tmod (z : Int) 2 = 1 then some (wrap64 (wrap64 (-(wrap64 (IntKind.u64.wrap (Int.tdiv (z : Int) 2)))) - 1), x, (0 : Int)) else some (wrap64 (IntKind.u64.wrap (Int.tdiv (z : Int) 2)), x, 0)) = some (unzz z, x, 0) := by
  have t1 : Int.tmod (z : Int) 2 = ((z % 2 : Nat) : Int) := tmod_nat z 2
  have t2 : Int.tdiv (z : Int) 2 = ((z / 2 : Nat) : Int) := tdiv_nat z 2
  have t3 : wrap64 (IntKind.u64.wrap ((z / 2 : Nat) : Int)) = ((z / 2 : Nat) : Int) := by rw [u64_id (by omega) (by omega), wrap64_id (by omega) (by omega)]
  have t4 : wrap64 (-((z / 2 : Nat) : Int)) = -((z / 2 : Nat) : Int) := wrap64_id (by omega) (by omega)
  have t5 : wrap64 (-((z / 2 : Nat) : Int) - 1) = -((z / 2 : Nat) : Int) - 1 := wrap64_id (by omega) (by omega)
  rw [t1, t2, t3, t4, t5]
  unfold unzz
  by_cases hp : z % 2 = 1
  · rw [if_pos (by omega), if_pos hp]
  · rw [if_neg (by omega), if_neg hp]
set_option maxHeartbeats 1000000 in
theorem s_gdec (s : ByteArray) (a : Int) (hs : (s.size : Int) ≤ 8000) (h0 : 0 ≤ a) (ha : a ≤ 9223372036854775807) : ∀ (f i u k : Nat), i + f = 10 → u < 2 ^ (7 * i) → 2 * f + 2 ≤ k →
    spec_GetNum.l0 k s a (u : Int) (i : Int) = some (gdec f s a i u) := by
  intro f
  induction f with
  | zero =>
    intro i u k hi _ hk
    obtain ⟨k, rfl⟩ : ∃ m, k = m + 1 := ⟨k - 1, by omega⟩
    simp only [spec_GetNum.l0]
    rw [if_neg (by omega)]; rfl
  | succ f ih =>
    intro i u k hi hu hk
    obtain ⟨k, rfl⟩ : ∃ m, k = m + 3 := ⟨k - 3, by omega⟩
    have w1 : wrap64 ((s.size : Int) - (i : Int)) = (s.size : Int) - i := wrap64_id (by omega) (by omega)
    simp only [spec_GetNum.l0, gdec]
    rw [if_pos (by omega), w1]
    by_cases hsh : a + (i : Int) ≥ (s.size : Int)
    · rw [if_pos (by omega), if_pos hsh]
    · rw [if_neg (by omega), if_neg hsh]
      have w2 : wrap64 (a + (i : Int)) = a + i := wrap64_id (by omega) (by omega)
      obtain ⟨b0, b1⟩ := bt_range s (a + i)
      obtain ⟨c, hc⟩ := Int.eq_ofNat_of_zero_le b0
      have w3 : IntKind.u64.wrap (bt s (a + (i : Int))) = (c : Int) := by rw [u64_id b0 (by omega), hc]
      have w4 : IntKind.u64.wrap (wrap64 (7 * (i : Int))) = 7 * (i : Int) := by rw [wrap64_id (by omega) (by omega), u64_id (by omega) (by omega)]
      have w5 : Int.tmod (c : Int) 128 = ((c % 128 : Nat) : Int) := tmod_nat c 128
      simp only [w2, w3]
      rw [if_pos (by omega), if_pos (by omega), hc, Int.toNat_natCast]
      rw [hc] at b1
      by_cases h9 : i = 9 ∧ (c : Int) > 1
      · obtain ⟨h9, h91⟩ := h9
        rw [if_pos (by omega), if_pos ⟨h9, h91⟩]
        simp only [spec_GetNum.j1]
        rw [if_pos (by simpa using h91)]
      · rw [if_neg h9]
        have hfl : (if (i : Int) = 9 then spec_GetNum.j1 (k + 2) s a (u : Int) (i : Int) (c : Int) (decide ((c : Int) > 1)) else spec_GetNum.j1 (k + 2) s a (u : Int) (i : Int) (c : Int) false) = spec_GetNum.j1 (k + 2) s a (u : Int) (i : Int) (c : Int) false := by
          split
          · have : decide ((c : Int) > 1) = false := decide_eq_false (by omega)
            rw [this]
          · rfl
        rw [hfl]
        obtain ⟨g1, g2, g3⟩ := group_lt (c := c) (show i ≤ 9 by omega) hu (by omega)
        have w6 : shl .u64 ((c % 128 : Nat) : Int) (7 * (i : Int)) = ((c % 128 * 2 ^ (7 * i) : Nat) : Int) := shl_u64 (by omega) g1 rfl
        generalize c % 128 * 2 ^ (7 * i) = v at *
        have w7 : IntKind.u64.wrap ((u : Int) + (v : Int)) = ((u + v : Nat) : Int) := by rw [u64_id (by omega) (by omega)]; omega
        have w8 : wrap64 ((i : Int) + 1) = ((i + 1 : Nat) : Int) := wrap64_id (by omega) (by omega)
        simp only [spec_GetNum.j1, w4, w5, w6, w7, w8]
        clear w4 w5 w6 w7 w8 w1 w3 hu g1
        generalize u + v = z at *
        rw [if_neg (by simp), if_pos (by omega)]
        by_cases h128 : (c : Int) ≥ 128
        · rw [if_neg (by omega), if_pos h128]
          rcases Nat.lt_or_ge i 9 with h | h
          · exact ih (i + 1) _ _ (by omega) (g3 h) (by omega)
          · exfalso; omega
        · rw [if_pos (by omega), if_neg h128]
          by_cases hz : (c : Int) = 0 ∧ i > 0
          · rw [if_pos hz.1, if_pos hz]
            simp only [spec_GetNum.j2]
            rw [if_pos (by simpa using hz.2)]
          · have hfl2 : (if (c : Int) = 0 then spec_GetNum.j2 (k + 1) a (z : Int) (i : Int) (decide ((i : Int) > 0)) else spec_GetNum.j2 (k + 1) a (z : Int) (i : Int) false) = spec_GetNum.j2 (k + 1) a (z : Int) (i : Int) false := by
              split
              · have : decide ((i : Int) > 0) = false := decide_eq_false (by omega)
                rw [this]
              · rfl
            rw [hfl2, if_neg hz]
            simp only [spec_GetNum.j2, w2]
            rw [if_neg (by simp)]
            have t6 : wrap64 (a + (i : Int) + 1) = a + i + 1 := wrap64_id (by omega) (by omega)
            rw [t6]
            exact s_fin z g2 _
theorem s_getNum (s : ByteArray) (a : Int) (ha : a ≤ 9223372036854775807) (k : Nat) (hk : 22 ≤ k) : spec_GetNum.f k s a = some (gnum s a) := by
  unfold spec_GetNum.f gnum
  by_cases h : (s.size : Int) > 8000
  · rw [if_pos h, if_pos h]
  · rw [if_neg h, if_neg h]
    by_cases h0 : a < 0
    · rw [if_pos h0, if_pos h0]
    · rw [if_neg h0, if_neg h0]
      exact s_gdec s a (by omega) (by omega) ha 10 0 0 k (by omega) (by simp) (by omega)

/-- What a decoded number is, and where it ends. -/
theorem gdec_ok : ∀ (f : Nat) (s : ByteArray) (a : Int) (i u : Nat), 0 ≤ a → (gdec f s a i u).2.2 = 0 → 0 ≤ (gdec f s a i u).2.1 ∧ (gdec f s a i u).2.1 ≤ (s.size : Int)
  | 0, s, a, i, u, _, h => by simp [gdec] at h
  | f + 1, s, a, i, u, h0, h => by
    rw [gdec] at h ⊢
    by_cases h1 : a + i ≥ (s.size : Int)
    · rw [if_pos h1] at h; simp at h
    · rw [if_neg h1] at h ⊢
      by_cases h2 : i = 9 ∧ bt s (a + i) > 1
      · rw [if_pos h2] at h; simp at h
      · rw [if_neg h2] at h ⊢
        by_cases h3 : bt s (a + i) ≥ 128
        · rw [if_pos h3] at h ⊢; exact gdec_ok f s a _ _ h0 h
        · rw [if_neg h3] at h ⊢
          by_cases h4 : bt s (a + i) = 0 ∧ i > 0
          · rw [if_pos h4] at h; simp at h
          · rw [if_neg h4]; exact ⟨by simp only; omega, by simp only; omega⟩
theorem gnum_ok {s : ByteArray} {a : Int} (h : (gnum s a).2.2 = 0) : (s.size : Int) ≤ 8000 ∧ 0 ≤ (gnum s a).2.1 ∧ (gnum s a).2.1 ≤ (s.size : Int) := by
  unfold gnum at h ⊢
  by_cases h1 : (s.size : Int) > 8000
  · rw [if_pos h1] at h; simp at h
  · rw [if_neg h1] at h ⊢
    by_cases h2 : a < 0
    · rw [if_pos h2] at h; simp at h
    · rw [if_neg h2] at h ⊢
      have := gdec_ok 10 s a 0 0 (by omega) h
      exact ⟨by omega, this⟩
def gtxt (s : ByteArray) (a : Int) : ByteArray × Int × Int :=
  if (gnum s a).2.2 = 0 then (if 0 ≤ (gnum s a).1 ∧ (gnum s a).1 ≤ 8000 then (if (gnum s a).2.1 + (gnum s a).1 > (s.size : Int) then (⟨#[]⟩, 0, 4)
    else (s.extract (gnum s a).2.1.toNat ((gnum s a).2.1 + (gnum s a).1).toNat, (gnum s a).2.1 + (gnum s a).1, 0)) else (⟨#[]⟩, 0, 3)) else (⟨#[]⟩, 0, (gnum s a).2.2)

theorem s_num (s : ByteArray) (a : Int) (d : Bool) (ha : a ≤ 8000) (k : Nat) (hk : 22 ≤ k) : ∃ n b e, spec_l03Reader_num.f k s a d = some (n, s, b, e) ∧ b ≤ 8000 ∧
    (∀ {n' b' : Int}, d = false → gnum s a = (n', b', 0) → n = n' ∧ b = b' ∧ e = false) ∧ (d = true → e = true) ∧ ((gnum s a).2.2 ≠ 0 → e = true) := by
  unfold spec_l03Reader_num.f
  rw [s_getNum s a (by omega) k hk, Option.bind_some]
  cases d with
  | true =>
    rw [if_pos rfl]
    exact ⟨_, _, _, rfl, ha, fun h => absurd h (by decide), fun _ => rfl, fun _ => rfl⟩
  | false =>
    rw [if_neg (by decide)]
    by_cases h0 : (gnum s a).2.2 = 0
    · rw [if_pos h0]
      have := gnum_ok h0
      refine ⟨_, _, _, rfl, by omega, ?_, fun h => absurd h (by decide), fun h => absurd h0 h⟩
      intro n' b' _ hg
      rw [hg]
      exact ⟨rfl, rfl, rfl⟩
    · rw [if_neg h0]
      refine ⟨_, _, _, rfl, ha, ?_, fun _ => rfl, fun _ => rfl⟩
      intro n' b' _ hg
      rw [hg] at h0
      exact absurd rfl h0

theorem and127 : ∀ b : Nat, b < 256 → b &&& 127 = b % 128 := by decide +kernel
theorem i_and {c : Nat} (h : c < 256) : IntKind.u64.wrap (Go.bits .and .u8 (c : Int) 127) = ((c % 128 : Nat) : Int) := by
  have e2 : (127 : Int) = ((127 : Nat) : Int) := rfl
  rw [e2, bits_and_nat, IntKind.wrap_u8, wrap_u64]
  have hb : (2 : Nat) ^ IntKind.u8.bits = 256 := by decide
  rw [hb, Nat.mod_eq_of_lt h, show 127 % 256 = 127 from rfl, and127 c h]
  omega
theorem or_group {u x i : Nat} (hu : u < 2 ^ (7 * i)) (h1 : x * 2 ^ (7 * i) < 18446744073709551616) (h2 : u + x * 2 ^ (7 * i) < 18446744073709551616) : Go.bits .or .u64 (u : Int) ((x * 2 ^ (7 * i) : Nat) : Int) = ((u + x * 2 ^ (7 * i) : Nat) : Int) := by
  rw [bits_or_nat, wrap_u64]
  have hb : (2 : Nat) ^ IntKind.u64.bits = 18446744073709551616 := by decide
  rw [hb, Nat.mod_eq_of_lt (by omega : u < 18446744073709551616), Nat.mod_eq_of_lt h1]
  have e : u ||| x * 2 ^ (7 * i) = u + x * 2 ^ (7 * i) := by
    rw [Nat.or_comm, Nat.mul_comm x, ← Nat.two_pow_add_eq_or_of_lt hu, Nat.add_comm]
  rw [e]
  omega
theorem and_one {z : Nat} (h : z < 18446744073709551616) : Go.bits .and .u64 (z : Int) 1 = ((z % 2 : Nat) : Int) := by
  have e2 : (1 : Int) = ((1 : Nat) : Int) := rfl
  rw [e2, bits_and_nat, wrap_u64]
  have hb : (2 : Nat) ^ IntKind.u64.bits = 18446744073709551616 := by decide
  rw [hb, Nat.mod_eq_of_lt h, show 1 % 18446744073709551616 = 2 ^ 1 - 1 from by decide, Nat.and_two_pow_sub_one_eq_mod]
  omega
theorem xor_zero_i64 {n : Nat} (h : n < 9223372036854775808) : Go.bits .xor .i64 (n : Int) 0 = (n : Int) := by
  have e2 : (0 : Int) = ((0 : Nat) : Int) := rfl
  rw [e2, bits_xor_nat, IntKind.wrap_i64]
  have hb : (2 : Nat) ^ IntKind.i64.bits = 18446744073709551616 := by decide
  rw [hb, Nat.mod_eq_of_lt (by omega : n < 18446744073709551616), Nat.zero_mod, Nat.xor_zero]
  omega
theorem xor_ones_i64 {n : Nat} (h : n < 9223372036854775808) : Go.bits .xor .i64 (n : Int) (-1) = -(n : Int) - 1 := by
  have hb : IntKind.i64.bits = 64 := rfl
  have e3 : (BitVec.ofInt 64 (-1)) = BitVec.ofNat 64 18446744073709551615 := by decide
  have e4 : Go.bits .xor .i64 (n : Int) (-1) = IntKind.i64.wrap (((BitVec.ofInt 64 (n : Int)) ^^^ (BitVec.ofInt 64 (-1))).toNat : Int) := rfl
  rw [e4, e3, BitVec.ofInt_natCast, BitVec.toNat_xor, BitVec.toNat_ofNat, BitVec.toNat_ofNat]
  have h64 : (2 : Nat) ^ 64 = 18446744073709551616 := by decide
  rw [h64, Nat.mod_eq_of_lt (by omega : n < 18446744073709551616), show 18446744073709551615 % 18446744073709551616 = 18446744073709551615 from by decide, xor_ones _ (by omega), IntKind.wrap_i64]
  omega
theorem i_fin {z : Nat} (g2 : z < 18446744073709551616) : Go.bits .xor .i64 (wrap64 ((z : Int) / 2)) (wrap64 (-(wrap64 (Go.bits .and .u64 (z : Int) 1)))) = unzz z := by
  rw [and_one g2]
  have t1 : wrap64 ((z : Int) / 2) = ((z / 2 : Nat) : Int) := wrap64_id (by omega) (by omega)
  have t2 : wrap64 ((z % 2 : Nat) : Int) = ((z % 2 : Nat) : Int) := wrap64_id (by omega) (by omega)
  rw [t1, t2]
  unfold unzz
  by_cases hp : z % 2 = 1
  · rw [if_pos hp, hp]
    have t3 : wrap64 (-((1 : Nat) : Int)) = -1 := by unfold wrap64; omega
    rw [t3, xor_ones_i64 (by omega)]
  · rw [if_neg hp, show z % 2 = 0 from by omega]
    have t3 : wrap64 (-((0 : Nat) : Int)) = 0 := by unfold wrap64; omega
    rw [t3, xor_zero_i64 (by omega)]
set_option maxHeartbeats 1000000 in
theorem i_gdec (s : ByteArray) (a : Int) (hs : (s.size : Int) ≤ 8000) (h0 : 0 ≤ a) (ha : a ≤ 8000) : ∀ (f i u k : Nat), i + f = 10 → 0 < f → u < 2 ^ (7 * i) → 2 * f + 2 ≤ k →
    impl_getNum.l0 k s a (u : Int) (i : Int) = some (gdec f s a i u) := by
  intro f
  induction f with
  | zero => intro i u k _ hf; omega
  | succ f ih =>
    intro i u k hi _ hu hk
    obtain ⟨k, rfl⟩ : ∃ m, k = m + 2 := ⟨k - 2, by omega⟩
    have w2 : wrap64 (a + (i : Int)) = a + i := wrap64_id (by omega) (by omega)
    simp only [impl_getNum.l0, gdec, w2]
    by_cases hsh : a + (i : Int) ≥ (s.size : Int)
    · rw [if_pos hsh, if_pos hsh]
    · rw [if_neg hsh, if_neg hsh]
      obtain ⟨b0, b1⟩ := bt_range s (a + i)
      obtain ⟨c, hc⟩ := Int.eq_ofNat_of_zero_le b0
      have w4 : wrap64 (7 * (i : Int)) = 7 * (i : Int) := wrap64_id (by omega) (by omega)
      rw [if_pos (by omega), if_pos (by omega), hc, Int.toNat_natCast]
      rw [hc] at b1
      have w5 := i_and (show c < 256 by omega)
      by_cases h9 : i = 9 ∧ (c : Int) > 1
      · obtain ⟨h9, h91⟩ := h9
        rw [if_pos (by omega), if_pos ⟨h9, h91⟩]
        simp only [impl_getNum.j1]
        rw [if_pos (by simpa using h91)]
      · rw [if_neg h9]
        have hfl : (if (i : Int) = 9 then impl_getNum.j1 (k + 1) s a (u : Int) (i : Int) (c : Int) (decide ((c : Int) > 1)) else impl_getNum.j1 (k + 1) s a (u : Int) (i : Int) (c : Int) false) = impl_getNum.j1 (k + 1) s a (u : Int) (i : Int) (c : Int) false := by
          split
          · have : decide ((c : Int) > 1) = false := decide_eq_false (by omega)
            rw [this]
          · rfl
        rw [hfl]
        obtain ⟨g1, g2, g3⟩ := group_lt (c := c) (show i ≤ 9 by omega) hu (by omega)
        have w6 : shl .u64 ((c % 128 : Nat) : Int) (7 * (i : Int)) = ((c % 128 * 2 ^ (7 * i) : Nat) : Int) := shl_u64 (by omega) g1 rfl
        have w7 := or_group hu g1 g2
        generalize c % 128 * 2 ^ (7 * i) = v at *
        have w8 : wrap64 ((i : Int) + 1) = ((i + 1 : Nat) : Int) := wrap64_id (by omega) (by omega)
        simp only [impl_getNum.j1, w2, w4, w5, w6, w7, w8]
        clear w4 w5 w6 w7 w8 hu g1
        generalize u + v = z at *
        rw [if_neg (by simp), if_pos (by omega)]
        by_cases h128 : (c : Int) ≥ 128
        · rw [if_pos h128, if_pos h128]
          rcases Nat.lt_or_ge i 9 with h | h
          · exact ih (i + 1) _ _ (by omega) (by omega) (g3 h) (by omega)
          · exfalso; omega
        · rw [if_neg h128, if_neg h128]
          have hv := i_fin g2
          have t6 : wrap64 (a + (i : Int) + 1) = a + i + 1 := wrap64_id (by omega) (by omega)
          rw [hv, t6]
          by_cases hz : (c : Int) = 0 ∧ i > 0
          · rw [if_pos hz.1, if_pos (by omega), if_pos hz]
          · rw [if_neg hz]
            by_cases hz0 : (c : Int) = 0
            · rw [if_pos hz0, if_neg (by omega)]
            · rw [if_neg hz0]
theorem i_getNum (s : ByteArray) (a : Int) (k : Nat) (hk : 22 ≤ k) : impl_GetNum.f k s a = some (gnum s a) := by
  unfold impl_GetNum.f impl_isLong.f gnum
  simp only [Option.bind_some, decide_eq_true_eq]
  by_cases h : (s.size : Int) > 8000
  · rw [if_pos h, if_pos h]
  · rw [if_neg h, if_neg h]
    by_cases h0 : a < 0
    · rw [if_pos h0, if_pos h0]
    · rw [if_neg h0, if_neg h0]
      by_cases h1 : a ≥ (s.size : Int)
      · rw [if_pos h1]
        simp only [gdec]
        rw [if_pos (by omega)]
      · rw [if_neg h1]
        unfold impl_getNum.f
        rw [show (0 : Int) = ((0 : Nat) : Int) from rfl, i_gdec s a (by omega) (by omega) (by omega) 10 0 0 k (by omega) (by omega) (by simp) (by omega)]
        rfl

theorem i_num (s : ByteArray) (a : Int) (d : Bool) (k : Nat) (hk : 22 ≤ k) : impl_reader_num.f k s a d = some ((gnum s a).1, s, (gnum s a).2.1, d || decide ((gnum s a).2.2 ≠ 0)) := by
  unfold impl_reader_num.f
  rw [i_getNum s a k hk, Option.bind_some]

theorem gtxt_mid {p t : ByteArray} (ht : (t.size : Int) ≤ 8000) (hs : ((p ++ encT t).size : Int) ≤ 8000) :
    gtxt (p ++ encT t) (p.size : Int) = (t, ((p ++ encT t).size : Int), 0) := by
  have e1 : encT t = encN (t.size : Int) ++ t := by unfold encT; rw [if_neg (by omega)]
  rw [e1, ← ByteArray.append_assoc] at hs ⊢
  have hg := gnum_mid (p := p) (q := t) (n := (t.size : Int)) hs (by omega)
  unfold gtxt
  rw [hg]
  have e : ((p ++ encN (t.size : Int)) ++ t).size = p.size + (encN (t.size : Int)).size + t.size := by simp
  simp only [if_true]
  rw [if_pos (by omega), if_neg (by omega)]
  have e2 : ((p.size : Int) + ((encN (t.size : Int)).size : Int)).toNat = (p ++ encN (t.size : Int)).size := by rw [ByteArray.size_append]; omega
  have e3 : ((p.size : Int) + ((encN (t.size : Int)).size : Int) + (t.size : Int)).toNat = (p ++ encN (t.size : Int)).size + t.size := by rw [ByteArray.size_append]; omega
  rw [e2, e3, ByteArray.extract_append_eq_right rfl rfl, e]
  simp
theorem bytes_take_enc (t : ByteArray) (n : Int) (m : Nat) (j : Nat) (hj : j < (vi 10 (zz n)).length) (hm : j < m) : bt ((encN n ++ t).extract 0 m) (j : Int) = (vi 10 (zz n)).getD j 0 := by
  rw [bt_of, bytes_ext, bytes_app, bytes_encN, Int.toNat_natCast, List.getD_eq_getElem?_getD, List.getD_eq_getElem?_getD, List.getElem?_take_of_lt hm, List.getElem?_append_left hj]
theorem gtxt_cut {t : ByteArray} (ht : (t.size : Int) ≤ 8000) (hs : ((encT t).size : Int) ≤ 8001) (m : Nat) (hm : m = (encT t).size - 1) :
    (gtxt ((encT t).extract 0 m) 0).2.2 = 4 := by
  subst hm
  have e1 : encT t = encN (t.size : Int) ++ t := by unfold encT; rw [if_neg (by omega)]
  rw [e1] at hs ⊢
  have hl := encN_len (t.size : Int)
  have hp := vi_pos 9 (zz (t.size : Int))
  have hsz : (encN (t.size : Int) ++ t).size = (encN (t.size : Int)).size + t.size := by simp
  have hez : ((encN (t.size : Int) ++ t).extract 0 ((encN (t.size : Int) ++ t).size - 1)).size = (encN (t.size : Int) ++ t).size - 1 := by
    rw [ByteArray.size_extract]; omega
  by_cases h0 : t.size = 0
  · have hg : gnum ((encN (t.size : Int) ++ t).extract 0 ((encN (t.size : Int) ++ t).size - 1)) 0 = (0, 0, 4) := by
      refine gnum_short (n := (t.size : Int)) (by omega) (by omega) ?_
      intro j hj
      exact bytes_take_enc t _ _ j (by omega) (by omega)
    unfold gtxt
    rw [hg]
    rfl
  · have hg : gnum ((encN (t.size : Int) ++ t).extract 0 ((encN (t.size : Int) ++ t).size - 1)) 0 = ((t.size : Int), 0 + ((encN (t.size : Int)).size : Int), 0) := by
      refine gnum_at (by omega) (by omega) (by omega) ?_
      intro j hj
      rw [Int.zero_add]
      exact ⟨by omega, bytes_take_enc t _ _ j hj (by omega)⟩
    unfold gtxt
    rw [hg]
    simp only [if_true]
    rw [if_pos (by omega), if_pos (by omega)]

theorem s_getText (s : ByteArray) (a : Int) (ha : a ≤ 9223372036854775807) (k : Nat) (hk : 22 ≤ k) : spec_GetText.f k s a = some (gtxt s a) := by
  obtain ⟨k, rfl⟩ : ∃ q, k = q + 1 := ⟨k - 1, by omega⟩
  unfold spec_GetText.f gtxt
  rw [s_getNum s a ha _ hk, Option.bind_some]
  by_cases h : (gnum s a).2.2 = 0
  · obtain ⟨hs, h0, h1⟩ := gnum_ok h
    rw [if_pos h, if_pos h]
    generalize (gnum s a).1 = n at *
    generalize (gnum s a).2.1 = e at *
    simp only [spec_GetText.j0]
    by_cases hn : 0 ≤ n ∧ n ≤ 8000
    · rw [if_neg (by omega), if_pos hn, if_neg (by simp; omega)]
      have w1 : wrap64 ((s.size : Int) - n) = (s.size : Int) - n := wrap64_id (by omega) (by omega)
      have w2 : wrap64 (e + n) = e + n := wrap64_id (by omega) (by omega)
      rw [w1, w2]
      by_cases hz : e + n > (s.size : Int)
      · rw [if_pos (by omega), if_pos hz]
      · rw [if_neg (by omega), if_neg hz, if_pos h0, if_pos (by omega), if_pos (by omega)]
    · rw [if_neg hn]
      by_cases hn0 : n < 0
      · rw [if_pos hn0, if_pos trivial]
      · rw [if_neg hn0, if_pos (by simp; omega)]
  · rw [if_neg h, if_neg h]

theorem i_getText (s : ByteArray) (a : Int) (k : Nat) (hk : 22 ≤ k) : impl_GetText.f k s a = some (gtxt s a) := by
  unfold impl_GetText.f gtxt
  rw [i_getNum s a _ hk, Option.bind_some]
  by_cases h : (gnum s a).2.2 = 0
  · obtain ⟨hs, h0, h1⟩ := gnum_ok h
    rw [if_pos h, if_pos h, i_in, Option.bind_some]
    generalize (gnum s a).1 = n at *
    generalize (gnum s a).2.1 = e at *
    by_cases hn : 0 ≤ n ∧ n ≤ 8000
    · rw [if_pos (by simpa using hn), if_pos hn]
      have w2 : wrap64 (e + n) = e + n := wrap64_id (by omega) (by omega)
      rw [w2]
      by_cases hz : e + n > (s.size : Int)
      · rw [if_pos hz, if_pos hz]
      · rw [if_neg hz, if_neg hz, if_pos h0, if_pos (by omega), if_pos (by omega)]
    · rw [if_neg (by simpa using hn), if_neg hn]
  · rw [if_neg h, if_neg h]


def unsealT (t : ByteArray) : ByteArray × Int × Int :=
  if (t.size : Int) > 8000 then (⟨#[]⟩, 0, 2) else if (t.size : Int) < 4 then (⟨#[]⟩, 0, 4)
  else if (four (crcOf 0 (t.extract 0 (t.size - 4)))).toList = (t.extract (t.size - 4) t.size).toList then (t.extract 0 (t.size - 4), 0, 0) else (⟨#[]⟩, 0, 5)

theorem ext_size (t : ByteArray) (a b : Nat) : (t.extract a b).size ≤ b - a := by
  rw [ByteArray.size_extract]; omega

theorem s_unseal (k : Nat) (t : ByteArray) (hk : 80000 < k) : spec_Unseal.f k t = some (unsealT t) := by
  unfold spec_Unseal.f unsealT
  by_cases h1 : (t.size : Int) > 8000
  · rw [if_pos h1, if_pos h1]
  · rw [if_neg h1, if_neg h1]
    by_cases h2 : (t.size : Int) < 4
    · rw [if_pos h2, if_pos h2]
    · have w : wrap64 ((t.size : Int) - 4) = ((t.size - 4 : Nat) : Int) := by rw [wrap64_id (by omega) (by omega)]; omega
      have e1 := ext_size t 0 (t.size - 4)
      rw [if_neg h2, if_neg h2, w, if_pos (by omega), if_pos (by omega), Int.toNat_natCast]
      have hs := s_crc k 0 (t.extract 0 (t.size - 4)) (by omega) (by omega) (by omega)
      rw [show ((0 : Nat) : Int) = 0 from rfl] at hs
      rw [hs]
      have e : spec_l01Four.f (crcOf 0 (t.extract 0 (t.size - 4)) : Int) = some (four (crcOf 0 (t.extract 0 (t.size - 4)))) := rfl
      simp only [Option.bind_some, e]
      split <;> rfl

theorem i_sealOf (t : ByteArray) (ht : t.size ≤ 1000000000) : impl_sealOf.f t = some (four (crcOf 0 t)) := by
  unfold impl_sealOf.f
  have h := i_crc 0 t (by omega) ht
  rw [show ((0 : Nat) : Int) = 0 from rfl] at h
  rw [h]; rfl

theorem i_unseal (t : ByteArray) (ht : t.size ≤ 4611686018427387904) : impl_Unseal.f t = some (unsealT t) := by
  unfold impl_Unseal.f impl_isLong.f unsealT
  simp only [Option.bind_some, decide_eq_true_eq]
  by_cases h1 : (t.size : Int) > 8000
  · rw [if_pos h1, if_pos h1]
  · rw [if_neg h1, if_neg h1]
    by_cases h2 : (t.size : Int) < 4
    · have w : wrap64 ((t.size : Int) - 4) = (t.size : Int) - 4 := wrap64_id (by omega) (by omega)
      rw [w, if_pos (by omega), if_pos h2]
    · have w : wrap64 ((t.size : Int) - 4) = ((t.size - 4 : Nat) : Int) := by rw [wrap64_id (by omega) (by omega)]; omega
      have e1 := ext_size t 0 (t.size - 4)
      rw [w, if_neg (by omega), if_neg h2, if_pos (by omega), if_pos (by omega), Int.toNat_natCast, i_sealOf _ (by omega)]
      simp only [Option.bind_some]
      split <;> rfl

theorem gtxt_ok {s : ByteArray} {a : Int} (h : (gtxt s a).2.2 = 0) : (gtxt s a).2.1 ≤ (s.size : Int) := by
  unfold gtxt at h ⊢
  by_cases h1 : (gnum s a).2.2 = 0
  · rw [if_pos h1] at h ⊢
    by_cases h2 : 0 ≤ (gnum s a).1 ∧ (gnum s a).1 ≤ 8000
    · rw [if_pos h2] at h ⊢
      by_cases h3 : (gnum s a).2.1 + (gnum s a).1 > (s.size : Int)
      · rw [if_pos h3] at h; exact absurd h (by decide)
      · rw [if_neg h3]; exact Int.not_lt.mp h3
    · rw [if_neg h2] at h; exact absurd h (by decide)
  · rw [if_neg h1] at h; exact absurd h h1
theorem s_text (s : ByteArray) (a : Int) (d : Bool) (ha : a ≤ 8000) (k : Nat) (hk : 22 ≤ k) : ∃ n b e, spec_l03Reader_text.f k s a d = some (n, s, b, e) ∧
    (∀ {n' : ByteArray} {b' : Int}, d = false → gtxt s a = (n', b', 0) → n = n' ∧ e = false) := by
  unfold spec_l03Reader_text.f
  rw [s_getText s a (by omega) k hk, Option.bind_some]
  cases d with
  | true =>
    rw [if_pos rfl]
    exact ⟨_, _, _, rfl, fun h => absurd h (by decide)⟩
  | false =>
    rw [if_neg (by decide)]
    by_cases h0 : (gtxt s a).2.2 = 0
    · rw [if_pos h0]
      refine ⟨_, _, _, rfl, ?_⟩
      intro n' b' _ hg
      rw [hg]
      exact ⟨rfl, rfl⟩
    · rw [if_neg h0]
      refine ⟨_, _, _, rfl, ?_⟩
      intro n' b' _ hg
      rw [hg] at h0
      exact absurd rfl h0
theorem i_text (s : ByteArray) (a : Int) (d : Bool) (k : Nat) (hk : 22 ≤ k) : impl_reader_str.f k s a d = some ((gtxt s a).1, s, (gtxt s a).2.1, d || decide ((gtxt s a).2.2 ≠ 0)) := by
  unfold impl_reader_str.f
  rw [i_getText s a k hk, Option.bind_some]
/-- The parts of a packet's body, read one after the other. -/
theorem packet_chain {s t : ByteArray} {a b c d : Int} (hok : packetOk a b c d t = true) (h : s = pkBody a b c d t) (hs : (s.size : Int) ≤ 8000) :
    ∃ a1 a2 a3 a4 : Int, gnum s 0 = (a, a1, 0) ∧ gnum s a1 = (b, a2, 0) ∧ gnum s a2 = (c, a3, 0) ∧ gnum s a3 = (d, a4, 0) ∧ gtxt s a4 = (t, (s.size : Int), 0) := by
  obtain ⟨ha, hb, hc, hd, ht⟩ := packetOk_bd hok
  have e : s = ByteArray.empty ++ (encN a ++ (encN b ++ (encN c ++ (encN d ++ encT t)))) := by
    rw [h]; unfold pkBody; simp only [ByteArray.append_assoc, ByteArray.empty_append]
  obtain ⟨g1, e1⟩ := rd_step e hs (by omega)
  obtain ⟨g2, e2⟩ := rd_step e1 hs (by omega)
  obtain ⟨g3, e3⟩ := rd_step e2 hs (by omega)
  obtain ⟨g4, e4⟩ := rd_step e3 hs (by omega)
  have g5 := gtxt_mid (p := (((ByteArray.empty ++ encN a) ++ encN b) ++ encN c) ++ encN d) (t := t) (by omega) (by rw [← e4]; exact hs)
  rw [← e4] at g5
  exact ⟨_, _, _, _, g1, g2, g3, g4, g5⟩
def packetRead (s : ByteArray) (R : Int × Int × Int × Int × ByteArray × Int) : Prop :=
  (∀ a b c d t, packetOk a b c d t = true → s = pkBody a b c d t → R = (a, b, c, d, t, 0)) ∧ ((¬ ∃ a b c d t, packetOk a b c d t = true ∧ s = pkBody a b c d t) → R = (0, 0, 0, 0, ⟨#[]⟩, 3))
theorem packetRead_eq {s : ByteArray} {R R' : Int × Int × Int × Int × ByteArray × Int} (h : packetRead s R) (h' : packetRead s R') : R = R' := by
  by_cases hx : ∃ a b c d t, packetOk a b c d t = true ∧ s = pkBody a b c d t
  · obtain ⟨a, b, c, d, t, h1, h2⟩ := hx
    rw [h.1 _ _ _ _ _ h1 h2, h'.1 _ _ _ _ _ h1 h2]
  · rw [h.2 hx, h'.2 hx]
/-- A sealed text is its body's seal. -/
theorem unseal_ok {t : ByteArray} (h : (unsealT t).2.2 = 0) : ((unsealT t).1.size : Int) ≤ 7996 ∧ 4 ≤ t.size ∧ ∀ b : ByteArray, sealT b = t ↔ b = (unsealT t).1 := by
  unfold unsealT at h ⊢
  by_cases h1 : (t.size : Int) > 8000
  · rw [if_pos h1] at h; exact absurd h (by decide)
  · rw [if_neg h1] at h ⊢
    by_cases h2 : (t.size : Int) < 4
    · rw [if_pos h2] at h; exact absurd h (by decide)
    · rw [if_neg h2] at h ⊢
      by_cases h3 : (four (crcOf 0 (t.extract 0 (t.size - 4)))).toList = (t.extract (t.size - 4) t.size).toList
      · rw [if_pos h3]
        have hz : (t.extract 0 (t.size - 4)).size = t.size - 4 := by rw [ByteArray.size_extract]; omega
        have h4 : four (crcOf 0 (t.extract 0 (t.size - 4))) = t.extract (t.size - 4) t.size := by
          rw [ByteArray.toList_eq, ByteArray.toList_eq] at h3
          exact ByteArray.ext (Array.toList_inj.1 h3)
        have h5 : t.extract 0 (t.size - 4) ++ t.extract (t.size - 4) t.size = t := by
          rw [ByteArray.extract_append_extract, Nat.min_eq_left (by omega), Nat.max_eq_right (by omega)]
          exact ByteArray.extract_zero_size
        refine ⟨by show ((t.extract 0 (t.size - 4)).size : Int) ≤ 7996; rw [hz]; omega, by omega, fun b => ⟨fun hb => ?_, fun hb => ?_⟩⟩
        · unfold sealT at hb
          by_cases h6 : (b.size : Int) > 7996
          · rw [if_pos h6] at hb
            rw [← hb] at h2
            exact absurd (by decide) h2
          · rw [if_neg h6] at hb
            have e4 := four_size (crcOf 0 b)
            have hsz : t.size - 4 = b.size := by rw [← hb, ByteArray.size_append, e4]; omega
            show b = t.extract 0 (t.size - 4)
            rw [hsz, ← hb]
            exact (ByteArray.extract_append_eq_left rfl).symm
        · subst hb
          show sealT (t.extract 0 (t.size - 4)) = t
          unfold sealT
          rw [if_neg (by rw [hz]; omega), h4, h5]
      · rw [if_neg h3] at h; exact absurd h (by decide)
theorem s_packetRead (t : ByteArray) (k : Nat) (hk : 80000 < k) : ∃ R, spec_PacketRead.f k t = some R ∧ ((unsealT t).2.2 = 0 → packetRead (unsealT t).1 R) ∧ ((unsealT t).2.2 ≠ 0 → R = (0, 0, 0, 0, ⟨#[]⟩, (unsealT t).2.2)) := by
  unfold spec_PacketRead.f
  rw [s_unseal k t hk, Option.bind_some]
  by_cases h0 : (unsealT t).2.2 = 0
  · obtain ⟨hsz, h4, hseal⟩ := unseal_ok h0
    rw [if_pos h0]
    have hne : (⟨#[]⟩ : ByteArray) ≠ t := by intro h; rw [← h] at h4; exact absurd h4 (by decide)
    generalize (unsealT t).1 = s at hsz hseal ⊢
    obtain ⟨n1, a1, d1, e1, h1, p1, _, _⟩ := s_num s 0 false (by omega) k (by omega)
    rw [e1, Option.bind_some]
    simp only
    obtain ⟨n2, a2, d2, e2, h2, p2, _, _⟩ := s_num s a1 d1 h1 k (by omega)
    rw [e2, Option.bind_some]
    simp only
    obtain ⟨n3, a3, d3, e3, h3, p3, _, _⟩ := s_num s a2 d2 h2 k (by omega)
    rw [e3, Option.bind_some]
    simp only
    obtain ⟨n4, a4, d4, e4, h4, p4, _, _⟩ := s_num s a3 d3 h3 k (by omega)
    rw [e4, Option.bind_some]
    simp only
    obtain ⟨n5, a5, d5, e5, p5⟩ := s_text s a4 d4 h4 k (by omega)
    rw [e5, Option.bind_some]
    simp only
    have key : ∀ a b c d x, packetOk a b c d x = true → s = pkBody a b c d x → n1 = a ∧ n2 = b ∧ n3 = c ∧ n4 = d ∧ n5 = x ∧ d5 = false := by
      intro a b c d x hok hx
      obtain ⟨b1, b2, b3, b4, g1, g2, g3, g4, g5⟩ := packet_chain hok hx (by omega)
      obtain ⟨rfl, rfl, rfl⟩ := p1 rfl g1
      obtain ⟨rfl, rfl, rfl⟩ := p2 rfl g2
      obtain ⟨rfl, rfl, rfl⟩ := p3 rfl g3
      obtain ⟨rfl, rfl, rfl⟩ := p4 rfl g4
      obtain ⟨rfl, rfl⟩ := p5 rfl g5
      exact ⟨rfl, rfl, rfl, rfl, rfl, rfl⟩
    by_cases hd : d5 = true
    · rw [if_pos hd]
      refine ⟨_, rfl, fun _ => ⟨?_, fun _ => rfl⟩, fun h => absurd h0 h⟩
      intro a b c d x hok hx
      obtain ⟨_, _, _, _, _, h⟩ := key a b c d x hok hx
      rw [h] at hd; cases hd
    · rw [if_neg hd, s_packetBytes _ _ _ _ _ k hk, Option.bind_some]
      by_cases hb : packetBytes n1 n2 n3 n4 n5 = t
      · rw [if_pos hb]
        refine ⟨_, rfl, fun _ => ⟨?_, fun hno => ?_⟩, fun h => absurd h0 h⟩
        · intro a b c d x hok hx
          obtain ⟨rfl, rfl, rfl, rfl, rfl, _⟩ := key a b c d x hok hx
          rfl
        · exfalso
          unfold packetBytes at hb
          by_cases hok : packetOk n1 n2 n3 n4 n5 = true
          · rw [if_pos hok] at hb
            exact hno ⟨_, _, _, _, _, hok, ((hseal _).1 hb).symm⟩
          · rw [if_neg hok] at hb
            exact hne hb
      · rw [if_neg hb]
        refine ⟨_, rfl, fun _ => ⟨?_, fun _ => rfl⟩, fun h => absurd h0 h⟩
        intro a b c d x hok hx
        exfalso
        obtain ⟨rfl, rfl, rfl, rfl, rfl, _⟩ := key a b c d x hok hx
        unfold packetBytes at hb
        rw [if_pos hok, ← hx] at hb
        exact hb ((hseal s).2 rfl)
  · rw [if_neg h0]
    exact ⟨_, rfl, fun h => absurd h h0, fun _ => rfl⟩
theorem i_packetRead (t : ByteArray) (ht : t.size ≤ 4611686018427387904) (k : Nat) (hk : 22 ≤ k) : ∃ R, impl_PacketRead.f k t = some R ∧ ((unsealT t).2.2 = 0 → packetRead (unsealT t).1 R) ∧ ((unsealT t).2.2 ≠ 0 → R = (0, 0, 0, 0, ⟨#[]⟩, (unsealT t).2.2)) := by
  unfold impl_PacketRead.f
  rw [i_unseal t ht, Option.bind_some]
  by_cases h0 : (unsealT t).2.2 = 0
  · obtain ⟨hsz, h4, _⟩ := unseal_ok h0
    rw [if_pos h0]
    generalize (unsealT t).1 = s at hsz ⊢
    rw [i_num _ _ _ k hk, Option.bind_some]
    simp only
    rw [i_num _ _ _ k hk, Option.bind_some]
    simp only
    rw [i_num _ _ _ k hk, Option.bind_some]
    simp only
    rw [i_num _ _ _ k hk, Option.bind_some]
    simp only
    rw [i_text _ _ _ k hk, Option.bind_some]
    simp only
    generalize e1 : gnum s 0 = x1
    generalize e2 : gnum s x1.2.1 = x2
    generalize e3 : gnum s x2.2.1 = x3
    generalize e4 : gnum s x3.2.1 = x4
    generalize e5 : gtxt s x4.2.1 = x5
    have key : ∀ a b c d x, packetOk a b c d x = true → s = pkBody a b c d x → x1.1 = a ∧ x2.1 = b ∧ x3.1 = c ∧ x4.1 = d ∧ x5.1 = x ∧ x1.2.2 = 0 ∧ x2.2.2 = 0 ∧ x3.2.2 = 0 ∧ x4.2.2 = 0 ∧ x5.2.2 = 0 := by
      intro a b c d x hok hx
      obtain ⟨b1, b2, b3, b4, g1, g2, g3, g4, g5⟩ := packet_chain hok hx (by omega)
      rw [g1] at e1; subst e1
      rw [g2] at e2; subst e2
      rw [g3] at e3; subst e3
      rw [g4] at e4; subst e4
      rw [g5] at e5; subst e5
      exact ⟨rfl, rfl, rfl, rfl, rfl, rfl, rfl, rfl, rfl, rfl⟩
    generalize hbad : (((((false || decide (x1.2.2 ≠ 0)) || decide (x2.2.2 ≠ 0)) || decide (x3.2.2 ≠ 0)) || decide (x4.2.2 ≠ 0)) || decide (x5.2.2 ≠ 0)) = bad
    cases bad with
    | true =>
      rw [if_pos rfl]
      refine ⟨_, rfl, fun _ => ⟨?_, fun _ => rfl⟩, fun h => absurd h0 h⟩
      intro a b c d x hok hx
      obtain ⟨_, _, _, _, _, z1, z2, z3, z4, z5⟩ := key a b c d x hok hx
      rw [z1, z2, z3, z4, z5] at hbad
      exact absurd hbad (by decide)
    | false =>
      rw [if_neg (by decide), i_packetRight, Option.bind_some]
      by_cases hok0 : packetOk x1.1 x2.1 x3.1 x4.1 x5.1 = true
      · obtain ⟨ha, hb, hc, hd, hx⟩ := packetOk_bd hok0
        rw [if_pos hok0, i_body (by omega) hb hc hd (by omega) k (by omega), Option.bind_some]
        by_cases hb : pkBody x1.1 x2.1 x3.1 x4.1 x5.1 = s
        · rw [if_pos hb]
          refine ⟨_, rfl, fun _ => ⟨?_, fun hno => ?_⟩, fun h => absurd h0 h⟩
          · intro a b c d x hok hx
            obtain ⟨rfl, rfl, rfl, rfl, rfl, _⟩ := key a b c d x hok hx
            rfl
          · exact absurd ⟨_, _, _, _, _, hok0, hb.symm⟩ hno
        · rw [if_neg hb]
          refine ⟨_, rfl, fun _ => ⟨?_, fun _ => rfl⟩, fun h => absurd h0 h⟩
          intro a b c d x hok hx
          obtain ⟨rfl, rfl, rfl, rfl, rfl, _⟩ := key a b c d x hok hx
          exact absurd hx.symm hb
      · rw [if_neg hok0]
        refine ⟨_, rfl, fun _ => ⟨?_, fun _ => rfl⟩, fun h => absurd h0 h⟩
        intro a b c d x hok hx
        obtain ⟨rfl, rfl, rfl, rfl, rfl, _⟩ := key a b c d x hok hx
        exact absurd hok hok0
  · rw [if_neg h0]
    exact ⟨_, rfl, fun h => absurd h h0, fun _ => rfl⟩

--@use prd
theorem eqPacketOut_refl (a b c d : Int) (t : ByteArray) (x : Int) : laws_eqPacketOut.f a b c d t x a b c d t x = some true := by
  unfold laws_eqPacketOut.f laws_eqPacket.f
  simp
theorem FnExactPacketRead : laws_FnExactPacketRead.Pure := by
  intro t ht
  refine ⟨80001, ?_⟩
  unfold laws_FnExactPacketRead.f
  by_cases h1 : (t.size : Int) > 1048576
  · rw [if_pos h1]
  · rw [if_neg h1]
    obtain ⟨R, e, h, h'⟩ := s_packetRead t 80001 (by omega)
    obtain ⟨R2, e2, h2, h2'⟩ := i_packetRead t (by omega) 80001 (by omega)
    have hR : R = R2 := by
      by_cases h0 : (unsealT t).2.2 = 0
      · exact packetRead_eq (h h0) (h2 h0)
      · rw [h' h0, h2' h0]
    subst hR
    rw [e, e2]
    simp only [Option.bind_some]
    rw [eqPacketOut_refl]
    simp

end Go.Proofs.Ytkpbfnbdknlghaa.Pure
