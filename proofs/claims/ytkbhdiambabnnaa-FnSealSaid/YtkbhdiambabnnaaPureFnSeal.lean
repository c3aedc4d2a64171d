/- The plain law of FnSeal: for all arguments that fit the guards its printed function answers true. -/
import Derived.Test.YtkbhdiambabnnaaPFnSealx
set_option linter.unusedVariables false
set_option linter.unusedSimpArgs false
namespace Go.Proofs.Ytkbhdiambabnnaa.Pure
open Go.RowKit Go.Proofs.Ytkbhdiambabnnaa.PFnSeal Go.Proofs.YtkbhdiambabnnaaW.PrintWords Go.Proofs.YtkbhdiambabnnaaW.PrintLast Go.Proofs.YtkbhdiambabnnaaW.PrintMore

theorem bits_xor_nat (k : IntKind) (a b : Nat) : Go.bits .xor k a b = k.wrap (((a % 2 ^ k.bits) ^^^ (b % 2 ^ k.bits) : Nat) : Int) := by
  simp only [Go.bits, BitVec.ofInt_natCast, BitVec.toNat_xor, BitVec.toNat_ofNat]
theorem bits_or_nat (k : IntKind) (a b : Nat) : Go.bits .or k a b = k.wrap (((a % 2 ^ k.bits) ||| (b % 2 ^ k.bits) : Nat) : Int) := by
  simp only [Go.bits, BitVec.ofInt_natCast, BitVec.toNat_or, BitVec.toNat_ofNat]
theorem bits_and_nat (k : IntKind) (a b : Nat) : Go.bits .and k a b = k.wrap (((a % 2 ^ k.bits) &&& (b % 2 ^ k.bits) : Nat) : Int) := by
  simp only [Go.bits, BitVec.ofInt_natCast, BitVec.toNat_and, BitVec.toNat_ofNat]
theorem wrap_u64 (n : Int) : IntKind.u64.wrap n = n % 18446744073709551616 := by simp [IntKind.wrap, IntKind.bits, IntKind.signed]
theorem wf_i64 {n : Int} (h : (Lit.int .i64 n).wf = true) : -9223372036854775808 ≤ n ∧ n ≤ 9223372036854775807 := by
  simp [Lit.wf, IntKind.signed, IntKind.bits, IntKind.min, IntKind.max] at h
  omega
theorem xor_ones (x : Nat) (h : x < 18446744073709551616) : x ^^^ 18446744073709551615 = 18446744073709551615 - x := by
  have e := BitVec.toNat_not (x := BitVec.ofNat 64 x)
  rw [← BitVec.xor_allOnes, BitVec.toNat_xor, BitVec.toNat_allOnes, BitVec.toNat_ofNat] at e
  rw [Nat.mod_eq_of_lt (by simpa using h)] at e
  simpa using e
theorem wrap64_id {x : Int} (h0 : -9223372036854775808 ≤ x) (h1 : x ≤ 9223372036854775807) : wrap64 x = x := by unfold wrap64; omega
theorem u64_id {x : Int} (h0 : 0 ≤ x) (h1 : x < 18446744073709551616) : IntKind.u64.wrap x = x := by rw [wrap_u64]; omega
theorem tmod_nat (a b : Nat) : Int.tmod (a : Int) (b : Int) = ((a % b : Nat) : Int) := by rw [Int.tmod_eq_emod_of_nonneg (by omega)]; simp
theorem tdiv_nat (a b : Nat) : Int.tdiv (a : Int) (b : Int) = ((a / b : Nat) : Int) := by rw [Int.tdiv_eq_ediv_of_nonneg (by omega)]; simp

theorem n_ok {l : List Int} {i m sz most : Int} (h0 : 0 ≤ i) (h1 : i ≤ (l.length : Int)) (hl : (l.length : Int) ≤ 1048576) (hm : 2 ≤ most ∧ most ≤ 1099511627776) :
    ∃ r i' m', spec_l01Src_n.f l i m sz most = some (r, i', m', sz) ∧ 0 ≤ r ∧ r < most ∧ 0 ≤ i' ∧ i' ≤ (l.length : Int) := by
  have hw : IntKind.u64.wrap most = most := u64_id (by omega) (by omega)
  have ho : ∀ v mm : Int, 0 ≤ spec_l01Src_n.out v mm most ∧ spec_l01Src_n.out v mm most < most := by
    intro v mm
    unfold spec_l01Src_n.out
    rw [hw, wrap_u64]
    generalize (v + mm / 1048576) = x
    have hx : 0 ≤ x % 18446744073709551616 := by omega
    rw [Int.tmod_eq_emod_of_nonneg hx]
    have a1 := Int.emod_nonneg (x % 18446744073709551616) (show most ≠ 0 by omega)
    have a2 := Int.emod_lt_of_pos (x % 18446744073709551616) (show 0 < most by omega)
    rw [wrap64_id (by omega) (by omega)]
    exact ⟨a1, a2⟩
  unfold spec_l01Src_n.f
  rw [if_neg (by omega), hw, if_neg (by omega)]
  by_cases h : i < (l.length : Int)
  · rw [if_pos h, if_pos h0, wrap64_id (by omega) (by omega)]
    have := ho (IntKind.u64.wrap (rd l i)) (spec_l01Src_n.mix m)
    exact ⟨_, _, _, rfl, this.1, this.2, by omega, by omega⟩
  · rw [if_neg h]
    have := ho 0 (spec_l01Src_n.mix m)
    exact ⟨_, _, _, rfl, this.1, this.2, by omega, by omega⟩
theorem src_l0 (l : List Int) : ∀ (d k : Nat) (x m : Int), 0 ≤ x → x + d = 64 → d < k → ∃ m' z, spec_l01Source.l0 k l x l 0 m 0 = some (l, 0, m', z) := by
  intro d
  induction d with
  | zero =>
    intro k x m h0 h1 hk
    obtain ⟨k, rfl⟩ : ∃ q, k = q + 1 := ⟨k - 1, by omega⟩
    simp only [spec_l01Source.l0]
    rw [if_neg (show ¬ x < 64 by omega)]
    split <;> split <;> exact ⟨_, _, rfl⟩
  | succ d ih =>
    intro k x m h0 h1 hk
    obtain ⟨k, rfl⟩ : ∃ q, k = q + 1 := ⟨k - 1, by omega⟩
    simp only [spec_l01Source.l0]
    rw [if_pos (show x < 64 by omega), if_pos h0, wrap64_id (x := x + 1) (by omega) (by omega)]
    by_cases h : x < (l.length : Int)
    · rw [if_pos h]; exact ih k _ _ (by omega) (by omega) (by omega)
    · rw [if_neg h]; split <;> exact ⟨_, _, rfl⟩
theorem source_ok (l : List Int) (k : Nat) (hk : 65 ≤ k) : ∃ m z, spec_l01Source.f k l = some (l, 0, m, z) := by
  unfold spec_l01Source.f
  exact src_l0 l 64 k 0 _ (by omega) (by omega) (by omega)

theorem one_ok {l : List Int} {i m sz most : Int} (h0 : 0 ≤ i) (h1 : i ≤ (l.length : Int)) (hl : (l.length : Int) ≤ 1048576) (hm : 2 ≤ most ∧ most ≤ 1099511627776) :
    ∃ b i' m', spec_l01Src_one.f l i m sz most = some (b, i', m', sz) ∧ 0 ≤ i' ∧ i' ≤ (l.length : Int) := by
  obtain ⟨r, i', m', e, _, _, a, b⟩ := n_ok (m := m) (sz := sz) h0 h1 hl hm
  unfold spec_l01Src_one.f
  rw [e]
  exact ⟨_, _, _, rfl, a, b⟩
theorem edge_ok {l : List Int} {i m sz : Int} (h0 : 0 ≤ i) (h1 : i ≤ (l.length : Int)) (hl : (l.length : Int) ≤ 1048576) :
    ∃ n i' m', spec_l01Src_edge.f l i m sz = some (n, i', m', sz) ∧ (-9223372036854775808 ≤ n ∧ n ≤ 9223372036854775807) ∧ 0 ≤ i' ∧ i' ≤ (l.length : Int) := by
  obtain ⟨r, i', m', e, r0, r1, a, b⟩ := n_ok (m := m) (sz := sz) (most := 14) h0 h1 hl (by omega)
  unfold spec_l01Src_edge.f
  rw [Option.bind_some, e, Option.bind_some, if_pos r0, if_pos (by simpa using r1)]
  refine ⟨_, _, _, rfl, ?_, a, b⟩
  have hall : ∀ x ∈ ([0, 1, (-1), 2, 1000, 1001, 2147483648, 2147483647, (-2147483648), 4611686018427387904, 9223372036854775807, (-9223372036854775808), 1000000, 1000001] : List Int), -9223372036854775808 ≤ x ∧ x ≤ 9223372036854775807 := by decide
  unfold rd
  rw [List.getD_eq_getElem?_getD, List.getElem?_eq_getElem (show r.toNat < _ by simp; omega), Option.getD_some]
  exact hall _ (List.getElem_mem _)

def vi : Nat → Nat → List Int
  | 0, _ => []
  | f + 1, u => if u < 128 then [(u : Int)] else ((u % 128 + 128 : Nat) : Int) :: vi f (u / 128)
def zz (n : Int) : Nat := (if n < 0 then -2 * n - 1 else 2 * n).toNat
def encN (n : Int) : ByteArray := strOfNums (vi 10 (zz n))
theorem zz_lt {n : Int} (h : -9223372036854775808 ≤ n ∧ n ≤ 9223372036854775807) : zz n < 18446744073709551616 := by
  unfold zz; split <;> omega
theorem zz_cast (n : Int) : (zz n : Int) = if n < 0 then -2 * n - 1 else 2 * n := by
  unfold zz; split <;> omega
theorem pow128 : (128 : Nat) ^ 10 = 1180591620717411303424 := by decide

theorem vi_len : ∀ (f u : Nat), (vi f u).length ≤ f
  | 0, _ => by simp [vi]
  | f + 1, u => by
    rw [vi]; split
    · simp
    · have := vi_len f (u / 128); simp; omega
theorem str_size (xs : List Int) : (strOfNums xs).size = xs.length := by simp [strOfNums, ByteArray.size]
theorem encN_size (n : Int) : (encN n).size ≤ 10 := by
  unfold encN; rw [str_size]; exact vi_len _ _

theorem drawbytes_l0 (l : List Int) (sz n : Int) (hn : n ≤ 1000) (hl : (l.length : Int) ≤ 1048576) : ∀ (d k : Nat) (x : Int) (out : List Int) (i m : Int), 0 ≤ x → x + d = n → 0 ≤ i → i ≤ (l.length : Int) → d < k → out.length + d ≤ 100000 →
    ∃ t i' m', spec_l01Src_bytes.l0 k n out x l i m sz = some (t, i', m', sz) ∧ 0 ≤ i' ∧ i' ≤ (l.length : Int) := by
  intro d
  induction d with
  | zero =>
    intro k x out i m h0 h1 hi hi2 hk hq
    obtain ⟨k, rfl⟩ : ∃ q, k = q + 1 := ⟨k - 1, by omega⟩
    simp only [spec_l01Src_bytes.l0]
    rw [if_neg (by omega)]
    exact ⟨_, _, _, rfl, hi, hi2⟩
  | succ d ih =>
    intro k x out i m h0 h1 hi hi2 hk hq
    obtain ⟨k, rfl⟩ : ∃ q, k = q + 1 := ⟨k - 1, by omega⟩
    simp only [spec_l01Src_bytes.l0]
    obtain ⟨r, i', m', e, _, _, a, b⟩ := n_ok (m := m) (sz := sz) (most := 256) hi hi2 hl (by omega)
    rw [if_pos (by omega), e, Option.bind_some, if_pos (by omega), wrap64_id (by omega) (by omega)]
    exact ih k _ _ _ _ (by omega) (by omega) a b (by omega) (by simp; omega)
theorem drawbytes_ok {l : List Int} {i m sz n : Int} (h0 : 0 ≤ i) (h1 : i ≤ (l.length : Int)) (hl : (l.length : Int) ≤ 1048576) (hn : 0 ≤ n ∧ n ≤ 1000) (k : Nat) (hk : n < k) :
    ∃ t i' m', spec_l01Src_bytes.f k l i m sz n = some (t, i', m', sz) ∧ 0 ≤ i' ∧ i' ≤ (l.length : Int) := by
  unfold spec_l01Src_bytes.f
  exact drawbytes_l0 l sz n hn.2 hl n.toNat k 0 [] i m (by omega) (by omega) h0 h1 (by omega) (by simp; omega)

theorem bytes_size : ∀ (k : Nat) (n : Int) (out : List Int) (x : Int) (l : List Int) (i m sz : Int) (r : ByteArray × Int × Int × Int), spec_l01Src_bytes.l0 k n out x l i m sz = some r → out.length ≤ 140737488355328 → r.1.size ≤ 140737488355328
  | 0, _, _, _, _, _, _, _, _, h, _ => by simp [spec_l01Src_bytes.l0] at h
  | k + 1, n, out, x, l, i, m, sz, r, h, hq => by
    simp only [spec_l01Src_bytes.l0] at h
    by_cases h1 : x < n
    · rw [if_pos h1] at h
      cases h2 : spec_l01Src_n.f l i m sz 256 with
      | none => rw [h2] at h; simp at h
      | some b =>
        rw [h2, Option.bind_some] at h
        by_cases h3 : out.length < 140737488355328
        · rw [if_pos h3] at h
          exact bytes_size k _ _ _ _ _ _ _ _ h (by simp; omega)
        · rw [if_neg h3] at h; cases h
    · rw [if_neg h1] at h
      obtain rfl := Option.some.inj h
      simp only
      rw [str_size]; exact hq

def nb (r : Nat) : Nat := if r % 2 = 1 then (r / 2) ^^^ 3988292384 else r / 2
def nbs : Nat → Nat → Nat
  | 0, r => r
  | j + 1, r => nbs j (nb r)
def crcStep (r c : Nat) : Nat := nbs 8 (r ^^^ c)
def crcFold (r : Nat) (l : List Int) : Nat := l.foldl (fun r c => crcStep r c.toNat) r
def crcOf (a : Nat) (t : ByteArray) : Nat := crcFold (a ^^^ 4294967295) (bytesOf t) ^^^ 4294967295
theorem two32 : (2 : Nat) ^ 32 = 4294967296 := by decide
theorem xor_lt {a b : Nat} (ha : a < 4294967296) (hb : b < 4294967296) : a ^^^ b < 4294967296 := by
  have := Nat.xor_lt_two_pow (n := 32) (x := a) (y := b) (by rw [two32]; exact ha) (by rw [two32]; exact hb)
  rwa [two32] at this
theorem nb_lt {r : Nat} (h : r < 4294967296) : nb r < 4294967296 := by
  unfold nb; split
  · exact xor_lt (by omega) (by omega)
  · omega
theorem nbs_lt : ∀ (j : Nat) {r : Nat}, r < 4294967296 → nbs j r < 4294967296
  | 0, _, h => h
  | j + 1, _, h => nbs_lt j (nb_lt h)
theorem byte_lt (t : ByteArray) {c : Int} (h : c ∈ bytesOf t) : 0 ≤ c ∧ c < 256 := by
  unfold bytesOf at h
  rw [List.mem_map] at h
  obtain ⟨b, _, rfl⟩ := h
  have := b.toNat_lt
  omega
theorem crcStep_lt {r c : Nat} (h : r < 4294967296) (hc : c < 256) : crcStep r c < 4294967296 := nbs_lt 8 (xor_lt h (by omega))
theorem crcFold_lt : ∀ (l : List Int) {r : Nat}, r < 4294967296 → (∀ c ∈ l, 0 ≤ c ∧ c < 256) → crcFold r l < 4294967296
  | [], _, h, _ => h
  | c :: l, r, h, hl => by
    have hc := hl c (by simp)
    exact crcFold_lt l (crcStep_lt h (by omega)) (fun d hd => hl d (by simp [hd]))
theorem crcOf_lt {a : Nat} (h : a < 4294967296) (t : ByteArray) : crcOf a t < 4294967296 :=
  xor_lt (crcFold_lt _ (xor_lt h (by omega)) (fun _ hc => byte_lt t hc)) (by omega)
theorem u32_xor {a b : Nat} (ha : a < 4294967296) (hb : b < 4294967296) : Go.bits .xor .u32 (a : Int) (b : Int) = ((a ^^^ b : Nat) : Int) := by
  rw [bits_xor_nat, IntKind.wrap_u32]
  have hb2 : (2 : Nat) ^ IntKind.u32.bits = 4294967296 := by decide
  have hx := xor_lt ha hb
  rw [hb2, Nat.mod_eq_of_lt ha, Nat.mod_eq_of_lt hb]
  omega
theorem u32_and1 {a : Nat} (ha : a < 4294967296) : Go.bits .and .u32 (a : Int) 1 = ((a % 2 : Nat) : Int) := by
  have e2 : (1 : Int) = ((1 : Nat) : Int) := rfl
  rw [e2, bits_and_nat, IntKind.wrap_u32]
  have hb2 : (2 : Nat) ^ IntKind.u32.bits = 4294967296 := by decide
  rw [hb2, Nat.mod_eq_of_lt ha, show 1 % 4294967296 = 2 ^ 1 - 1 from by decide, Nat.and_two_pow_sub_one_eq_mod]
  omega

theorem s_l1 (t : ByteArray) (i : Int) : ∀ (j k x : Nat), j ≤ 8 → x < 4294967296 → spec_l01Crc.l1 (k + j + 1) t (x : Int) i ((8 - j : Nat) : Int) = spec_l01Crc.l0 k t ((nbs j x : Nat) : Int) (wrap64 (i + 1)) := by
  intro j
  induction j with
  | zero =>
    intro k x _ hx
    rw [spec_l01Crc.l1, if_neg (by omega)]; rfl
  | succ j ih =>
    intro k x hj hx
    have e : k + (j + 1) + 1 = (k + j + 1) + 1 := by omega
    have w : wrap64 (((8 - (j + 1) : Nat) : Int) + 1) = ((8 - j : Nat) : Int) := by rw [wrap64_id (by omega) (by omega)]; omega
    have hd : (x : Int) / 2 = ((x / 2 : Nat) : Int) := by omega
    rw [e, spec_l01Crc.l1, if_pos (by omega), u32_and1 hx, w, hd]
    by_cases h : x % 2 = 1
    · rw [if_pos (by omega), show (3988292384 : Int) = ((3988292384 : Nat) : Int) from rfl, u32_xor (by omega) (by omega), ih k _ (by omega) (xor_lt (by omega) (by omega))]
      rw [nbs, nb, if_pos h]
    · rw [if_neg (by omega), ih k _ (by omega) (by omega)]
      rw [nbs, nb, if_neg h]
theorem s_l0 (t : ByteArray) (ht : t.size ≤ 1000000000) : ∀ (d k i x : Nat), t.size = i + d → 10 * d < k → x < 4294967296 → spec_l01Crc.l0 k t (x : Int) (i : Int) = some ((crcFold x ((bytesOf t).drop i) ^^^ 4294967295 : Nat) : Int) := by
  intro d
  induction d with
  | zero =>
    intro k i x h1 hk hx
    obtain ⟨k, rfl⟩ : ∃ m, k = m + 1 := ⟨k - 1, by omega⟩
    have hxx := xor_lt hx (show 4294967295 < 4294967296 by omega)
    rw [spec_l01Crc.l0, if_neg (by omega), List.drop_eq_nil_of_le (by rw [bytesOf_length]; omega), show (4294967295 : Int) = ((4294967295 : Nat) : Int) from rfl, u32_xor hx (by omega), wrap64_id (by omega) (by omega)]
    rfl
  | succ d ih =>
    intro k i x h1 hk hx
    obtain ⟨k, rfl⟩ : ∃ m, k = (m + 8 + 1) + 1 := ⟨k - 10, by omega⟩
    have w : wrap64 ((i : Int) + 1) = ((i + 1 : Nat) : Int) := wrap64_id (by omega) (by omega)
    have hi : i < (bytesOf t).length := by rw [bytesOf_length]; omega
    have hb : bt t (i : Int) = (bytesOf t)[i] := by
      rw [← rd_bytesOf]; unfold rd; rw [Int.toNat_natCast, List.getD_eq_getElem?_getD, List.getElem?_eq_getElem hi, Option.getD_some]
    have hc := byte_lt t (List.getElem_mem hi)
    rw [List.drop_eq_getElem_cons hi]
    rw [spec_l01Crc.l0, if_pos (by omega), if_pos (by omega), hb]
    show _ = some ((crcFold (crcStep x (bytesOf t)[i].toNat) ((bytesOf t).drop (i + 1)) ^^^ 4294967295 : Nat) : Int)
    generalize (bytesOf t)[i] = c at *
    obtain ⟨n, rfl⟩ := Int.eq_ofNat_of_zero_le hc.1
    have hn : (n : Int) % 4294967296 = (n : Int) := by omega
    have hx2 := xor_lt hx (show n < 4294967296 by omega)
    rw [hn, u32_xor hx (by omega), show (0 : Int) = ((8 - 8 : Nat) : Int) from rfl, s_l1 t (i : Int) 8 k _ (by omega) hx2, w, Int.toNat_natCast]
    exact ih k (i + 1) _ (by omega) (by omega) (nbs_lt 8 hx2)
theorem s_crc (k a : Nat) (t : ByteArray) (ha : a < 4294967296) (ht : t.size ≤ 1000000000) (hk : 10 * t.size < k) : spec_l01Crc.f k (a : Int) t = some (crcOf a t : Int) := by
  unfold spec_l01Crc.f
  have e : (a : Int) % 4294967296 = (a : Int) := by omega
  rw [e, show (4294967295 : Int) = ((4294967295 : Nat) : Int) from rfl, u32_xor ha (by omega)]
  have h := s_l0 t ht t.size k 0 (a ^^^ 4294967295) (by omega) hk (xor_lt ha (by omega))
  rw [show ((0 : Nat) : Int) = 0 from rfl, List.drop_zero] at h
  rw [h]; rfl

theorem i_bit {a c : Nat} (ha : a < 4294967296) (hc : c < 256) : impl_crcMore.bit ((a : Int), (c : Int)) = (((if (a ^^^ c) % 2 = 1 then (a / 2) ^^^ 3988292384 else a / 2 : Nat) : Int), ((c / 2 : Nat) : Int)) := by
  unfold impl_crcMore.bit
  have e1 : Go.bits .and .u8 (c : Int) 1 % 4294967296 = ((c % 2 : Nat) : Int) := by
    have e2 : (1 : Int) = ((1 : Nat) : Int) := rfl
    rw [e2, bits_and_nat, IntKind.wrap_u8]
    have hb2 : (2 : Nat) ^ IntKind.u8.bits = 256 := by decide
    rw [hb2, Nat.mod_eq_of_lt hc, show 1 % 256 = 2 ^ 1 - 1 from by decide, Nat.and_two_pow_sub_one_eq_mod]
    omega
  have e3 : (a : Int) / 2 = ((a / 2 : Nat) : Int) := by omega
  have e4 : (c : Int) / 2 = ((c / 2 : Nat) : Int) := by omega
  have e5 : ((a % 2) ^^^ (c % 2)) = (a ^^^ c) % 2 := by
    have := Nat.xor_mod_two_pow (a := a) (b := c) (n := 1)
    simpa using this.symm
  simp only [u32_and1 ha, e1, e3, e4]
  rw [u32_xor (by omega) (by omega), e5]
  by_cases h : (a ^^^ c) % 2 = 1
  · rw [if_pos (by omega), if_pos h, show (3988292384 : Int) = ((3988292384 : Nat) : Int) from rfl, u32_xor (by omega) (by omega)]
  · rw [if_neg (by omega), if_neg h]
theorem i_bits : ∀ (j a c : Nat), a < 4294967296 → c < 256 → ∃ a' : Nat, impl_crcMore.bits j ((a : Int), (c : Int)) = ((a' : Int), ((c / 2 ^ j : Nat) : Int)) ∧ a' < 4294967296 ∧ a' ^^^ (c / 2 ^ j) = nbs j (a ^^^ c)
  | 0, a, c, ha, hc => ⟨a, by simp [impl_crcMore.bits], ha, by simp [nbs]⟩
  | j + 1, a, c, ha, hc => by
    rw [impl_crcMore.bits, i_bit ha hc]
    have hlt : (if (a ^^^ c) % 2 = 1 then (a / 2) ^^^ 3988292384 else a / 2) < 4294967296 := by
      split
      · exact xor_lt (by omega) (by omega)
      · omega
    obtain ⟨a', h1, h2, h3⟩ := i_bits j _ (c / 2) hlt (by omega)
    have e : c / 2 / 2 ^ j = c / 2 ^ (j + 1) := by rw [Nat.div_div_eq_div_mul, Nat.pow_succ, Nat.mul_comm]
    rw [e] at h1 h3
    refine ⟨a', h1, h2, ?_⟩
    rw [h3, nbs, nb]
    congr 1
    have hd : (a ^^^ c) / 2 = a / 2 ^^^ c / 2 := Nat.xor_div_two
    by_cases h : (a ^^^ c) % 2 = 1
    · rw [if_pos h, if_pos h, hd, Nat.xor_assoc, Nat.xor_comm 3988292384, ← Nat.xor_assoc]
    · rw [if_neg h, if_neg h, hd]
theorem i_step {a c : Nat} (ha : a < 4294967296) (hc : c < 256) : impl_crcMore.step (a : Int) (c : Int) = (crcStep a c : Int) := by
  unfold impl_crcMore.step crcStep
  obtain ⟨a', h1, h2, h3⟩ := i_bits 8 a c ha hc
  have e : c / 2 ^ 8 = 0 := by
    rw [show (2 : Nat) ^ 8 = 256 from by decide]; omega
  rw [e, Nat.xor_zero] at h3
  rw [h1, ← h3]
theorem i_fold_crc : ∀ (l : List Int) (a : Nat), a < 4294967296 → (∀ c ∈ l, 0 ≤ c ∧ c < 256) → impl_crcMore.go (a : Int) l = (crcFold a l : Int)
  | [], a, _, _ => rfl
  | c :: l, a, ha, hl => by
    have hc := hl c (by simp)
    obtain ⟨n, rfl⟩ := Int.eq_ofNat_of_zero_le hc.1
    have ih := i_fold_crc l (crcStep a n) (crcStep_lt ha (by omega)) (fun d hd => hl d (by simp [hd]))
    show impl_crcMore.go (impl_crcMore.step (a : Int) (n : Int)) l = (crcFold (crcStep a n) l : Int)
    rw [i_step ha (by omega)]
    exact ih
theorem i_not {a : Nat} (ha : a < 4294967296) : impl_crcMore.not (a : Int) = ((a ^^^ 4294967295 : Nat) : Int) := by
  unfold impl_crcMore.not
  rw [show IntKind.u32.max = ((4294967295 : Nat) : Int) from by decide, u32_xor (by omega) ha, Nat.xor_comm]
theorem i_crc (a : Nat) (t : ByteArray) (ha : a < 4294967296) (ht : t.size ≤ 1000000000) : impl_crcMore.f (a : Int) t = some (crcOf a t : Int) := by
  unfold impl_crcMore.f
  rw [if_pos (by omega), i_not ha, i_fold_crc _ _ (xor_lt ha (by omega)) (fun _ h => byte_lt t h), i_not (crcFold_lt _ (xor_lt ha (by omega)) (fun _ hc => byte_lt t hc))]
  rfl

def four (c : Nat) : ByteArray := strOfNums [(c : Int) % 256, (c : Int) / 256 % 256, (c : Int) / 65536 % 256, (c : Int) / 16777216 % 256]
theorem four_size (c : Nat) : (four c).size = 4 := by simp [four, strOfNums, ByteArray.size]
def sealT (t : ByteArray) : ByteArray := if (t.size : Int) > 7996 then ⟨#[]⟩ else t ++ four (crcOf 0 t)

def unsealT (t : ByteArray) : ByteArray × Int × Int :=
  if (t.size : Int) > 8000 then (⟨#[]⟩, 0, 2) else if (t.size : Int) < 4 then (⟨#[]⟩, 0, 4)
  else if (four (crcOf 0 (t.extract 0 (t.size - 4)))).toList = (t.extract (t.size - 4) t.size).toList then (t.extract 0 (t.size - 4), 0, 0) else (⟨#[]⟩, 0, 5)

theorem i_sealOf (t : ByteArray) (ht : t.size ≤ 1000000000) : impl_sealOf.f t = some (four (crcOf 0 t)) := by
  unfold impl_sealOf.f
  have h := i_crc 0 t (by omega) ht
  rw [show ((0 : Nat) : Int) = 0 from rfl] at h
  rw [h]; rfl

theorem ext_size (t : ByteArray) (a b : Nat) : (t.extract a b).size ≤ b - a := by
  rw [ByteArray.size_extract]; omega

theorem i_unseal (t : ByteArray) (ht : t.size ≤ 4611686018427387904) : impl_Unseal.f t = some (unsealT t) := by
  unfold impl_Unseal.f impl_isLong.f unsealT
  simp only [Option.bind_some, decide_eq_true_eq]
  by_cases h1 : (t.size : Int) > 8000
  · rw [if_pos h1, if_pos h1]
  · rw [if_neg h1, if_neg h1]
    by_cases h2 : (t.size : Int) < 4
    · have w : wrap64 ((t.size : Int) - 4) = (t.size : Int) - 4 := wrap64_id (by omega) (by omega)
      rw [w, if_pos (by omega), if_pos h2]
    · have w : wrap64 ((t.size : Int) - 4) = ((t.size - 4 : Nat) : Int) := by rw [wrap64_id (by omega) (by omega)]; omega
      have e1 := ext_size t 0 (t.size - 4)
      rw [w, if_neg (by omega), if_neg h2, if_pos (by omega), if_pos (by omega), Int.toNat_natCast, i_sealOf _ (by omega)]
      simp only [Option.bind_some]
      split <;> rfl

theorem s_seal (k : Nat) (t : ByteArray) (hk : 80000 < k) : spec_Seal.f k t = some (sealT t) := by
  unfold spec_Seal.f sealT
  by_cases h : (t.size : Int) > 7996
  · rw [if_pos h, if_pos h]
  · rw [if_neg h, if_neg h]
    have hs := s_crc k 0 t (by omega) (by omega) (by omega)
    rw [show ((0 : Nat) : Int) = 0 from rfl] at hs
    rw [hs]
    have e : spec_l01Four.f (crcOf 0 t : Int) = some (four (crcOf 0 t)) := rfl
    have hz := four_size (crcOf 0 t)
    simp only [Option.bind_some, e]
    rw [if_pos (by omega)]

theorem i_seal (t : ByteArray) : impl_Seal.f t = some (sealT t) := by
  unfold impl_Seal.f sealT
  by_cases h : (t.size : Int) > 7996
  · rw [if_pos h, if_pos h]
  · rw [if_neg h, if_neg h, i_sealOf t (by omega)]
    have hz := four_size (crcOf 0 t)
    simp only [Option.bind_some]
    rw [if_pos (by omega)]

def unzz (u : Nat) : Int := if u % 2 = 1 then -((u / 2 : Nat) : Int) - 1 else ((u / 2 : Nat) : Int)
def gdec : Nat → ByteArray → Int → Nat → Nat → Int × Int × Int
  | 0, _, _, _, _ => (0, 0, 3)
  | f + 1, s, a, i, u =>
    if a + i ≥ (s.size : Int) then (0, 0, 4)
    else if i = 9 ∧ bt s (a + i) > 1 then (0, 0, 3)
    else if bt s (a + i) ≥ 128 then gdec f s a (i + 1) (u + (bt s (a + i)).toNat % 128 * 2 ^ (7 * i))
    else if bt s (a + i) = 0 ∧ i > 0 then (0, 0, 3)
    else (unzz (u + (bt s (a + i)).toNat % 128 * 2 ^ (7 * i)), a + i + 1, 0)
def gnum (s : ByteArray) (a : Int) : Int × Int × Int := if (s.size : Int) > 8000 then (0, 0, 2) else if a < 0 then (0, 0, 1) else gdec 10 s a 0 0
theorem pow7 (i : Nat) (hi : i ≤ 9) : (2 : Nat) ^ (7 * i) ≤ 9223372036854775808 := by
  have := Nat.pow_le_pow_right (n := 2) (by decide) (show 7 * i ≤ 63 by omega)
  rwa [show (2 : Nat) ^ 63 = 9223372036854775808 from by decide] at this
theorem pow7s (i : Nat) : (2 : Nat) ^ (7 * (i + 1)) = 128 * 2 ^ (7 * i) := by
  rw [Nat.mul_add, Nat.pow_add, Nat.mul_comm]
/-- One more group fits. -/
theorem group_lt {u c i : Nat} (hi : i ≤ 9) (hu : u < 2 ^ (7 * i)) (hc : i = 9 → c ≤ 1) : c % 128 * 2 ^ (7 * i) < 18446744073709551616 ∧ u + c % 128 * 2 ^ (7 * i) < 18446744073709551616 ∧ (i < 9 → u + c % 128 * 2 ^ (7 * i) < 2 ^ (7 * (i + 1))) := by
  have hm : c % 128 < 128 := Nat.mod_lt _ (by decide)
  rcases Nat.lt_or_ge i 9 with h | h
  · have h8 : (2 : Nat) ^ (7 * i) ≤ 72057594037927936 := by
      have := Nat.pow_le_pow_right (n := 2) (by decide) (show 7 * i ≤ 56 by omega)
      rwa [show (2 : Nat) ^ 56 = 72057594037927936 from by decide] at this
    have hs := pow7s i
    rw [hs]
    have h1 : c % 128 * 2 ^ (7 * i) ≤ 127 * 2 ^ (7 * i) := Nat.mul_le_mul_right _ (by omega)
    generalize 2 ^ (7 * i) = z at *
    generalize c % 128 * z = y at *
    omega
  · obtain rfl : i = 9 := by omega
    have hc := hc rfl
    have e : c % 128 = c := Nat.mod_eq_of_lt (by omega)
    have e9 : (2 : Nat) ^ (7 * 9) = 9223372036854775808 := by decide
    have h1 : c % 128 * 2 ^ (7 * 9) ≤ 9223372036854775808 := by
      rw [e, e9]; exact Nat.le_trans (Nat.mul_le_mul_right _ hc) (by decide)
    rw [e9] at hu
    generalize c % 128 * 2 ^ (7 * 9) = y at *
    clear e e9
    exact ⟨by omega, by omega, fun h => absurd h (by omega)⟩
theorem shl_u64 {x i : Nat} (hi : i ≤ 9) (hx : x * 2 ^ (7 * i) < 18446744073709551616) {y : Int} (hy : y = 7 * (i : Int)) : shl .u64 (x : Int) y = ((x * 2 ^ (7 * i) : Nat) : Int) := by
  subst hy
  unfold shl
  have hb : IntKind.u64.bits = 64 := rfl
  have e : min (7 * (i : Int)).toNat 64 = 7 * i := by omega
  rw [hb, e, wrap_u64]
  have e2 : (x : Int) * 2 ^ (7 * i) = ((x * 2 ^ (7 * i) : Nat) : Int) := by simp
  rw [e2]
  omega

theorem unzz_zz (n : Int) : unzz (zz n) = n := by
  have h := zz_cast n
  unfold unzz
  by_cases hn : n < 0
  · rw [if_pos hn] at h; rw [if_pos (by omega)]; omega
  · rw [if_neg hn] at h; rw [if_neg (by omega)]; omega
theorem vi_byte : ∀ (f u : Nat) (c : Int), c ∈ vi f u → 0 ≤ c ∧ c < 256
  | 0, _, c, h => by simp [vi] at h
  | f + 1, u, c, h => by
    rw [vi] at h
    by_cases hu : u < 128
    · rw [if_pos hu] at h; simp only [List.mem_singleton] at h; omega
    · rw [if_neg hu, List.mem_cons] at h
      rcases h with h | h
      · omega
      · exact vi_byte f _ c h
theorem vi_pos (f u : Nat) : 0 < (vi (f + 1) u).length := by
  rw [vi]; split <;> simp
theorem bt_of (s : ByteArray) (i : Int) : bt s i = (bytesOf s).getD i.toNat 0 := by
  unfold bt bytesOf
  by_cases h : i.toNat < s.size
  · rw [dif_pos h, List.getD_eq_getElem?_getD, List.getElem?_map, List.getElem?_eq_getElem (show i.toNat < s.data.toList.length from h)]
    rfl
  · rw [dif_neg h, List.getD_eq_getElem?_getD, List.getElem?_eq_none (by rw [List.length_map]; exact Nat.le_of_not_lt h)]
    rfl
theorem bytes_app (a b : ByteArray) : bytesOf (a ++ b) = bytesOf a ++ bytesOf b := by simp [bytesOf]
theorem bytes_str {xs : List Int} (h : ∀ c ∈ xs, 0 ≤ c ∧ c < 256) : bytesOf (strOfNums xs) = xs := by
  unfold bytesOf strOfNums
  simp only [List.map_map]
  have : ∀ c ∈ xs, ((fun b : UInt8 => (b.toNat : Int)) ∘ fun n : Int => UInt8.ofNat n.toNat) c = id c := by
    intro c hc
    have := h c hc
    simp only [Function.comp, id, UInt8.toNat_ofNat']
    omega
  rw [List.map_congr_left this, List.map_id]
theorem bytes_len (s : ByteArray) : (bytesOf s).length = s.size := by
  unfold bytesOf; rw [List.length_map]; rfl
theorem bytes_ext (s : ByteArray) (b : Nat) : bytesOf (s.extract 0 b) = (bytesOf s).take b := by
  unfold bytesOf
  rw [ByteArray.data_extract, Array.toList_extract]
  simp [List.map_take]
theorem bytes_encN (n : Int) : bytesOf (encN n) = vi 10 (zz n) := bytes_str (fun c h => vi_byte _ _ c h)
theorem split128 (v z : Nat) : v % 128 * z + v / 128 * (128 * z) = v * z := by
  have h := Nat.mod_add_div v 128
  calc v % 128 * z + v / 128 * (128 * z) = (v % 128 + 128 * (v / 128)) * z := by rw [Nat.add_mul, Nat.mul_comm 128 (v / 128), Nat.mul_assoc]
    _ = v * z := by rw [h]
theorem last_group {v : Nat} (h : v * 2 ^ (7 * 9) < 18446744073709551616) : v ≤ 1 := by
  rw [show (2 : Nat) ^ (7 * 9) = 9223372036854775808 from by decide] at h; omega
theorem no_group {v : Nat} (h : v * 2 ^ (7 * 10) < 18446744073709551616) : v = 0 := by
  rw [show (2 : Nat) ^ (7 * 10) = 1180591620717411303424 from by decide] at h; omega
theorem next_group {v i : Nat} (h : v * 2 ^ (7 * i) < 18446744073709551616) : v / 128 * 2 ^ (7 * (i + 1)) < 18446744073709551616 := by
  have e := split128 v (2 ^ (7 * i))
  rw [pow7s]
  generalize v * 2 ^ (7 * i) = p at *
  generalize v / 128 * (128 * 2 ^ (7 * i)) = q at *
  generalize v % 128 * 2 ^ (7 * i) = r at *
  omega
theorem gdec_vi (s : ByteArray) (a : Int) : ∀ (f i u v : Nat), i + f = 10 → v * 2 ^ (7 * i) < 18446744073709551616 → (i > 0 → v > 0) →
    (∀ j : Nat, j < (vi f v).length → a + (i + j : Nat) < (s.size : Int) ∧ bt s (a + (i + j : Nat)) = (vi f v).getD j 0) →
    gdec f s a i u = (unzz (u + v * 2 ^ (7 * i)), a + (i : Int) + ((vi f v).length : Int), 0) := by
  intro f
  induction f with
  | zero =>
    intro i u v hi hv hp _
    obtain rfl : i = 10 := by omega
    have := no_group hv
    exact absurd (hp (by omega)) (by omega)
  | succ f ih =>
    intro i u v hi hv hp H
    have h0 := H 0 (vi_pos f v)
    rw [Nat.add_zero] at h0
    obtain ⟨h1, h2⟩ := h0
    have h9 : i = 9 → v ≤ 1 := by
      intro h; subst h; exact last_group hv
    rw [gdec, if_neg (by omega)]
    by_cases hu : v < 128
    · have e : vi (f + 1) v = [(v : Int)] := by rw [vi, if_pos hu]
      rw [e] at h2 ⊢
      have h3 : bt s (a + (i : Int)) = (v : Int) := h2
      rw [h3, if_neg (by omega), if_neg (by omega), if_neg (by omega), Int.toNat_natCast, Nat.mod_eq_of_lt hu]
      rfl
    · have e : vi (f + 1) v = ((v % 128 + 128 : Nat) : Int) :: vi f (v / 128) := by rw [vi, if_neg hu]
      rw [e] at h2 H ⊢
      have h3 : bt s (a + (i : Int)) = ((v % 128 + 128 : Nat) : Int) := h2
      rw [h3, if_neg (by omega), if_pos (by omega), Int.toNat_natCast]
      have e1 : (v % 128 + 128) % 128 = v % 128 := by omega
      rw [e1, ih (i + 1) _ (v / 128) (by omega) (next_group hv) (by omega) (by
        intro j hj
        have := H (j + 1) (by simpa using hj)
        rw [show i + (j + 1) = i + 1 + j from by omega] at this
        simpa using this)]
      have e2 := split128 v (2 ^ (7 * i))
      rw [← pow7s] at e2
      rw [Nat.add_assoc, e2, List.length_cons]
      congr 2
      omega
theorem gdec_short (s : ByteArray) (a : Int) : ∀ (f i u v : Nat), i + f = 10 → v * 2 ^ (7 * i) < 18446744073709551616 → (i > 0 → v > 0) →
    (s.size : Int) = a + (i : Int) + (((vi f v).length - 1 : Nat) : Int) →
    (∀ j : Nat, j < (vi f v).length - 1 → bt s (a + (i + j : Nat)) = (vi f v).getD j 0) →
    gdec f s a i u = (0, 0, 4) := by
  intro f
  induction f with
  | zero =>
    intro i u v hi hv hp _ _
    obtain rfl : i = 10 := by omega
    have := no_group hv
    exact absurd (hp (by omega)) (by omega)
  | succ f ih =>
    intro i u v hi hv hp hs H
    have h9 : i = 9 → v ≤ 1 := by
      intro h; subst h; exact last_group hv
    by_cases hu : v < 128
    · have e : vi (f + 1) v = [(v : Int)] := by rw [vi, if_pos hu]
      rw [e] at hs
      rw [gdec, if_pos (by simp at hs; omega)]
    · have e : vi (f + 1) v = ((v % 128 + 128 : Nat) : Int) :: vi f (v / 128) := by rw [vi, if_neg hu]
      obtain ⟨f, rfl⟩ : ∃ q, f = q + 1 := ⟨f - 1, by omega⟩
      have hl := vi_pos f (v / 128)
      rw [e] at H hs
      simp only [List.length_cons, Nat.add_sub_cancel] at H hs
      have h3 : bt s (a + (i : Int)) = ((v % 128 + 128 : Nat) : Int) := H 0 hl
      rw [gdec, if_neg (by omega), h3, if_neg (by omega), if_pos (by omega)]
      exact ih (i + 1) _ (v / 128) (by omega) (next_group hv) (by omega) (by omega) (by
        intro j hj
        have := H (j + 1) (by omega)
        rw [show i + (j + 1) = i + 1 + j from by omega] at this
        simpa using this)
/-- A number that stands somewhere in a text is got from there. -/
theorem gnum_at {s : ByteArray} {a n : Int} (hs : (s.size : Int) ≤ 8000) (ha : 0 ≤ a) (hn : -9223372036854775808 ≤ n ∧ n ≤ 9223372036854775807)
    (H : ∀ j : Nat, j < (vi 10 (zz n)).length → a + (j : Int) < (s.size : Int) ∧ bt s (a + (j : Int)) = (vi 10 (zz n)).getD j 0) :
    gnum s a = (n, a + ((encN n).size : Int), 0) := by
  have hz := zz_lt hn
  unfold gnum
  rw [if_neg (by omega), if_neg (by omega), gdec_vi s a 10 0 0 (zz n) (by omega) (by simpa using hz) (by omega) (by simpa using H)]
  unfold encN
  rw [str_size]
  simp [unzz_zz]
theorem gnum_short {s : ByteArray} {n : Int} (hn : -9223372036854775808 ≤ n ∧ n ≤ 9223372036854775807) (hs : s.size = (vi 10 (zz n)).length - 1)
    (H : ∀ j : Nat, j < (vi 10 (zz n)).length - 1 → bt s (j : Int) = (vi 10 (zz n)).getD j 0) :
    gnum s 0 = (0, 0, 4) := by
  have hz := zz_lt hn
  have hl := vi_len 10 (zz n)
  unfold gnum
  rw [if_neg (by omega), if_neg (by omega), gdec_short s 0 10 0 0 (zz n) (by omega) (by simpa using hz) (by omega) (by omega) (by simpa using H)]
theorem bt_mid (p q : ByteArray) (n : Int) (j : Nat) (h : j < (vi 10 (zz n)).length) : bt ((p ++ encN n) ++ q) ((p.size : Int) + (j : Int)) = (vi 10 (zz n)).getD j 0 := by
  rw [bt_of, bytes_app, bytes_app, bytes_encN]
  have hl := bytes_len p
  have e : ((p.size : Int) + (j : Int)).toNat = p.size + j := by omega
  rw [e, List.getD_eq_getElem?_getD, List.getD_eq_getElem?_getD, List.append_assoc, List.getElem?_append_right (by omega), hl, Nat.add_sub_cancel_left, List.getElem?_append_left h]
theorem encN_len (n : Int) : (encN n).size = (vi 10 (zz n)).length := by unfold encN; rw [str_size]
theorem gnum_mid {p q : ByteArray} {n : Int} (hs : (((p ++ encN n) ++ q).size : Int) ≤ 8000) (hn : -9223372036854775808 ≤ n ∧ n ≤ 9223372036854775807) :
    gnum ((p ++ encN n) ++ q) (p.size : Int) = (n, (p.size : Int) + ((encN n).size : Int), 0) := by
  have e : ((p ++ encN n) ++ q).size = p.size + (encN n).size + q.size := by simp
  have e2 := encN_len n
  exact gnum_at hs (by omega) hn (fun j hj => ⟨by omega, bt_mid p q n j hj⟩)
theorem gnum_cut {n : Int} (hn : -9223372036854775808 ≤ n ∧ n ≤ 9223372036854775807) (m : Nat) (hm : m = (encN n).size - 1) : gnum ((encN n).extract 0 m) 0 = (0, 0, 4) := by
  subst hm
  have hl := encN_len n
  refine gnum_short hn (by rw [ByteArray.size_extract]; omega) ?_
  intro j hj
  rw [bt_of, bytes_ext, bytes_encN, Int.toNat_natCast, List.getD_eq_getElem?_getD, List.getD_eq_getElem?_getD, List.getElem?_take_of_lt (by omega)]

theorem i_in (a b c : Int) : impl_in.f a b c = some (decide (b ≤ a ∧ a ≤ c)) := by
  unfold impl_in.f; by_cases h : b ≤ a
  · rw [if_pos h]; by_cases h2 : a ≤ c <;> simp [h, h2]
  · rw [if_neg h]; congr 1; symm; apply decide_eq_false; omega

def crcMoreV (a : Int) (t : ByteArray) : Int := if (t.size : Int) > 8000 then 0 else if 0 ≤ a ∧ a ≤ 4294967295 then (crcOf a.toNat t : Int) else 0
theorem i_crcMore (a : Int) (t : ByteArray) : impl_CrcMore.f a t = some (crcMoreV a t) := by
  unfold impl_CrcMore.f impl_isLong.f crcMoreV
  rw [i_in]
  simp only [Option.bind_some, decide_eq_true_eq]
  by_cases h : (t.size : Int) > 8000
  · rw [if_pos h, if_pos h]
  · rw [if_neg h, if_neg h]
    by_cases h2 : 0 ≤ a ∧ a ≤ 4294967295
    · obtain ⟨n, rfl⟩ := Int.eq_ofNat_of_zero_le h2.1
      have e : (n : Int) % 4294967296 = (n : Int) := by omega
      have hlt := crcOf_lt (a := n) (by omega) t
      rw [if_pos h2, if_pos h2, e, i_crc n t (by omega) (by omega), Option.bind_some, wrap64_id (by omega) (by omega), Int.toNat_natCast]
    · rw [if_neg h2, if_neg h2]

theorem s_crcMore (k : Nat) (a : Int) (t : ByteArray) (hk : 80000 < k) : spec_CrcMore.f k a t = some (crcMoreV a t) := by
  unfold spec_CrcMore.f crcMoreV
  by_cases h : (t.size : Int) > 8000
  · rw [if_pos h, if_pos h]
  · rw [if_neg h, if_neg h]
    by_cases h2 : 0 ≤ a ∧ a ≤ 4294967295
    · obtain ⟨n, rfl⟩ := Int.eq_ofNat_of_zero_le h2.1
      rw [if_neg (by omega), if_neg (by omega), if_pos h2, s_crc k n t (by omega) (by omega) (by omega), Int.toNat_natCast]; rfl
    · rw [if_neg h2]
      by_cases h3 : a < 0
      · rw [if_pos h3]
      · rw [if_neg h3, if_pos (by omega)]

theorem xor31 {a b : Nat} (ha : a < 2147483648) (hb : b < 2147483648) : a ^^^ b < 2147483648 := by
  have := Nat.xor_lt_two_pow (n := 31) (x := a) (y := b) (by omega) (by omega)
  omega
theorem xor_cancel {a b c : Nat} (h : a ^^^ c = b ^^^ c) : a = b := by
  have := congrArg (· ^^^ c) h
  simpa [Nat.xor_assoc] using this
theorem xor_to {a b c : Nat} (h : a ^^^ c = b) : c = a ^^^ b := by
  rw [← h, ← Nat.xor_assoc, Nat.xor_self, Nat.zero_xor]
theorem nb_inj {r s : Nat} (hr : r < 4294967296) (hs : s < 4294967296) (h : nb r = nb s) : r = s := by
  unfold nb at h
  by_cases h1 : r % 2 = 1 <;> by_cases h2 : s % 2 = 1
  · rw [if_pos h1, if_pos h2] at h; have := xor_cancel h; omega
  · rw [if_pos h1, if_neg h2] at h
    have := xor_to h
    have := xor31 (a := r / 2) (b := s / 2) (by omega) (by omega)
    omega
  · rw [if_neg h1, if_pos h2] at h
    have := xor_to h.symm
    have := xor31 (a := s / 2) (b := r / 2) (by omega) (by omega)
    omega
  · rw [if_neg h1, if_neg h2] at h; omega
theorem nbs_inj : ∀ (j : Nat) {r s : Nat}, r < 4294967296 → s < 4294967296 → nbs j r = nbs j s → r = s
  | 0, _, _, _, _, h => h
  | j + 1, _, _, hr, hs, h => nb_inj hr hs (nbs_inj j (nb_lt hr) (nb_lt hs) h)
theorem crcStep_inj {r s c : Nat} (hr : r < 4294967296) (hs : s < 4294967296) (hc : c < 256) (h : crcStep r c = crcStep s c) : r = s :=
  xor_cancel (nbs_inj 8 (xor_lt hr (by omega)) (xor_lt hs (by omega)) h)
theorem crcStep_byte {r c d : Nat} (hr : r < 4294967296) (hc : c < 256) (hd : d < 256) (h : crcStep r c = crcStep r d) : c = d := by
  have h2 := nbs_inj 8 (xor_lt hr (by omega)) (xor_lt hr (by omega)) h
  rw [Nat.xor_comm r c, Nat.xor_comm r d] at h2
  exact xor_cancel h2
theorem crcFold_inj : ∀ (l : List Int) {r s : Nat}, r < 4294967296 → s < 4294967296 → (∀ c ∈ l, 0 ≤ c ∧ c < 256) → crcFold r l = crcFold s l → r = s
  | [], _, _, _, _, _, h => h
  | c :: l, r, s, hr, hs, hl, h => by
    have hc := hl c (by simp)
    have h2 : crcStep r c.toNat = crcStep s c.toNat := crcFold_inj l (crcStep_lt hr (by omega)) (crcStep_lt hs (by omega)) (fun d hd => hl d (by simp [hd])) h
    exact crcStep_inj hr hs (by omega) h2
theorem crcFold_set : ∀ (l : List Int) (i : Nat) (v : Int) {r : Nat}, r < 4294967296 → (∀ c ∈ l, 0 ≤ c ∧ c < 256) → 0 ≤ v → v < 256 → i < l.length → crcFold r (l.set i v) = crcFold r l → l[i]? = some v
  | [], i, _, _, _, _, _, _, hi, _ => absurd hi (by simp)
  | c :: l, 0, v, r, hr, hl, hv, hv2, _, h => by
    have hc := hl c (by simp)
    have hl2 : ∀ d ∈ l, 0 ≤ d ∧ d < 256 := fun d hd => hl d (by simp [hd])
    have h2 : crcStep r v.toNat = crcStep r c.toNat := crcFold_inj l (crcStep_lt hr (by omega)) (crcStep_lt hr (by omega)) hl2 h
    have h3 := crcStep_byte hr (by omega) (by omega) h2
    simp only [List.getElem?_cons_zero, Option.some.injEq]; omega
  | c :: l, i + 1, v, r, hr, hl, hv, hv2, hi, h => by
    have hc := hl c (by simp)
    have := crcFold_set l i v (crcStep_lt hr (by omega : c.toNat < 256)) (fun d hd => hl d (by simp [hd])) hv hv2 (by simpa using hi) h
    simpa using this
theorem flip_ne {b v : Nat} (hv : 0 < v) (h : b ^^^ v = b) : False := by
  have h2 : v ^^^ b = 0 ^^^ b := by rw [Nat.xor_comm v b, h, Nat.zero_xor]
  have := xor_cancel h2; omega
def fl (c : Nat) : List Int := [(c : Int) % 256, (c : Int) / 256 % 256, (c : Int) / 65536 % 256, (c : Int) / 16777216 % 256]
theorem fl_inj {c d : Nat} (hc : c < 4294967296) (hd : d < 4294967296) (h : fl c = fl d) : c = d := by
  unfold fl at h
  simp only [List.cons.injEq, and_true] at h
  omega
def sumL (l : List Int) : Nat := crcFold (0 ^^^ 4294967295) l ^^^ 4294967295
theorem sumL_lt {l : List Int} (h : ∀ c ∈ l, 0 ≤ c ∧ c < 256) : sumL l < 4294967296 := xor_lt (crcFold_lt l (by decide) h) (by omega)
theorem set_bytes {l : List Int} {i : Nat} {v : Int} (h : ∀ c ∈ l, 0 ≤ c ∧ c < 256) (hv : 0 ≤ v ∧ v < 256) : ∀ c ∈ l.set i v, 0 ≤ c ∧ c < 256 := by
  intro c hc
  rcases List.mem_or_eq_of_mem_set hc with h2 | rfl
  · exact h c h2
  · exact hv
theorem flip_bad {l : List Int} {i : Nat} {v : Int} (h : ∀ c ∈ l, 0 ≤ c ∧ c < 256) (hv : 0 ≤ v ∧ v < 256) (hi : i < l.length + 4) (hne : (l ++ fl (sumL l))[i]? ≠ some v) :
    fl (sumL (((l ++ fl (sumL l)).set i v).take l.length)) ≠ ((l ++ fl (sumL l)).set i v).drop l.length := by
  intro e
  by_cases h1 : i < l.length
  · rw [List.set_append, if_pos h1, List.take_left' (by simp), List.drop_left' (by simp)] at e
    have e2 := fl_inj (sumL_lt (set_bytes h hv)) (sumL_lt h) e
    have e3 := xor_cancel e2
    have e4 := crcFold_set l i v (by decide) h hv.1 hv.2 h1 e3
    rw [List.getElem?_append_left h1] at hne
    exact hne e4
  · rw [List.set_append, if_neg h1, List.take_left' rfl, List.drop_left' rfl] at e
    rw [List.getElem?_append_right (by omega)] at hne
    apply hne
    rw [e, List.getElem?_set_self (by simp [fl]; omega)]

--@use draw_one
--@use vilen
--@use draw_bytes
--@use draw_size
--@use unseal_i
--@use seal_s
--@use seal_ii
--@use roundtrip
--@use crcmore_i
--@use crcmore_s
--@use crcinj
theorem drawseal_ok {l : List Int} (hl : (l.length : Int) ≤ 1048576) (k : Nat) (hk : 65 ≤ k) : ∃ t, spec_DrawSeal.f k l = some t ∧ t.size ≤ 140737488355328 := by
  obtain ⟨m, z, e⟩ := source_ok l k hk
  obtain ⟨b, i1, m1, e1, a1, a2⟩ := one_ok (l := l) (i := 0) (m := m) (sz := z) (most := 30) (by omega) (by omega) hl (by omega)
  unfold spec_DrawSeal.f
  rw [e, Option.bind_some]
  simp only [e1, Option.bind_some]
  cases b with
  | true =>
    obtain ⟨r, i2, m2, e2, r0, r1, b1, b2⟩ := n_ok (m := m1) (sz := z) (most := 3) a1 a2 hl (by omega)
    rw [if_pos rfl]
    simp only [e2, Option.bind_some]
    rw [wrap64_id (by omega) (by omega), if_pos (by omega), if_pos (by omega)]
    exact ⟨_, rfl, by rw [str_size, List.length_replicate]; omega⟩
  | false =>
    obtain ⟨r, i2, m2, e2, r0, r1, b1, b2⟩ := n_ok (m := m1) (sz := z) (most := 20) a1 a2 hl (by omega)
    rw [if_neg (by simp)]
    simp only [e2, Option.bind_some]
    obtain ⟨t, i3, m3, e3, _, _⟩ := drawbytes_ok (m := m2) (sz := z) (n := r) b1 b2 hl (by omega) k (by omega)
    simp only [e3, Option.bind_some]
    exact ⟨_, rfl, bytes_size _ _ _ _ _ _ _ _ _ e3 (by simp)⟩
theorem four_bytes (c : Nat) : bytesOf (four c) = fl c := by
  unfold four fl
  exact bytes_str (by intro x hx; simp at hx; omega)
theorem sum_of (t : ByteArray) : crcOf 0 t = sumL (bytesOf t) := rfl
theorem drawcrc_ok {l : List Int} (hl : (l.length : Int) ≤ 1048576) (k : Nat) (hk : 80001 ≤ k) : ∃ d, spec_DrawCrcMore.f k l = some d ∧ d.2.size ≤ 140737488355328 := by
  obtain ⟨m, z, e⟩ := source_ok l k (by omega)
  obtain ⟨r, i1, m1, e1, r0, r1, a1, a2⟩ := n_ok (l := l) (i := 0) (m := m) (sz := z) (most := 9) (by omega) (by omega) hl (by omega)
  obtain ⟨t, i2, m2, e2, b1, b2⟩ := drawbytes_ok (m := m1) (sz := z) (n := r) a1 a2 hl (by omega) k (by omega)
  obtain ⟨b, i3, m3, e3, c1, c2⟩ := one_ok (l := l) (i := i2) (m := m2) (sz := z) (most := 5) b1 b2 hl (by omega)
  unfold spec_DrawCrcMore.f
  rw [e, Option.bind_some]
  simp only [e1, e2, e3, Option.bind_some]
  cases b with
  | true =>
    rw [if_pos rfl]
    obtain ⟨n, i4, m4, e4, hn, _, _⟩ := edge_ok (l := l) (i := i3) (m := m3) (sz := z) c1 c2 hl
    simp only [e4, Option.bind_some]
    exact ⟨_, rfl, bytes_size _ _ _ _ _ _ _ _ _ e2 (by simp)⟩
  | false =>
    rw [if_neg (by simp)]
    obtain ⟨r2, i4, m4, e4, s0, s1, d1, d2⟩ := n_ok (l := l) (i := i3) (m := m3) (sz := z) (most := 9) c1 c2 hl (by omega)
    simp only [e4, Option.bind_some]
    obtain ⟨t2, i5, m5, e5, _, _⟩ := drawbytes_ok (m := m4) (sz := z) (n := r2) d1 d2 hl (by omega) k (by omega)
    simp only [e5, Option.bind_some]
    have hc : spec_Crc.f k t2 = some (if (t2.size : Int) > 8000 then 0 else (crcOf 0 t2 : Int)) := by
      unfold spec_Crc.f
      by_cases h : (t2.size : Int) > 8000
      · rw [if_pos h, if_pos h]
      · rw [if_neg h, if_neg h]
        have hs := s_crc k 0 t2 (by omega) (by omega) (by omega)
        rw [show ((0 : Nat) : Int) = 0 from rfl] at hs
        rw [hs, Option.bind_some]
    rw [hc, Option.bind_some]
    exact ⟨_, rfl, bytes_size _ _ _ _ _ _ _ _ _ e2 (by simp)⟩
theorem unseal_seal {t : ByteArray} (h : t.size ≤ 7996) : unsealT (t ++ four (crcOf 0 t)) = (t, 0, 0) := by
  have h4 := four_size (crcOf 0 t)
  have hs : (t ++ four (crcOf 0 t)).size = t.size + 4 := by rw [ByteArray.size_append, h4]
  have e1 : (t ++ four (crcOf 0 t)).extract 0 t.size = t := ByteArray.extract_append_eq_left rfl
  have e2 : (t ++ four (crcOf 0 t)).extract t.size (t.size + 4) = four (crcOf 0 t) := ByteArray.extract_append_eq_right rfl (by omega)
  unfold unsealT
  rw [if_neg (by omega), if_neg (by omega), hs, show t.size + 4 - 4 = t.size by omega, e1, e2, if_pos rfl]
theorem unseal_flip {t : ByteArray} (h : t.size ≤ 7996) {i : Nat} {v : Int} (hv : 0 ≤ v ∧ v < 256) (hi : i < t.size + 4) (hne : (bytesOf (t ++ four (crcOf 0 t)))[i]? ≠ some v) :
    (unsealT (strOfNums ((bytesOf (t ++ four (crcOf 0 t))).set i v))).2.2 = 5 := by
  have hb : ∀ c ∈ bytesOf t, 0 ≤ c ∧ c < 256 := fun c hc => byte_lt t hc
  have hB : ∀ c ∈ bytesOf (t ++ four (crcOf 0 t)), 0 ≤ c ∧ c < 256 := fun c hc => byte_lt _ hc
  have hS := bytes_str (set_bytes (i := i) hB hv)
  have hz : (strOfNums ((bytesOf (t ++ four (crcOf 0 t))).set i v)).size = t.size + 4 := by
    rw [str_size, List.length_set, bytes_len, ByteArray.size_append, four_size]
  rw [bytes_app, four_bytes, sum_of] at hne
  have K := flip_bad hb hv (by rw [bytes_len]; exact hi) hne
  generalize hw : strOfNums ((bytesOf (t ++ four (crcOf 0 t))).set i v) = w at hS hz ⊢
  rw [bytes_app, four_bytes, sum_of] at hS
  unfold unsealT
  rw [if_neg (by omega), if_neg (by omega), if_neg]
  intro e
  apply K
  rw [← hS, bytes_len, ← bytes_ext, ← sum_of, ← four_bytes]
  rw [hz, show t.size + 4 - 4 = t.size by omega] at e
  have e3 : four (crcOf 0 (w.extract 0 t.size)) = w.extract t.size (t.size + 4) := by
    rw [ByteArray.toList_eq, ByteArray.toList_eq] at e; exact ByteArray.ext (Array.toList_inj.1 e)
  rw [e3]
  unfold bytesOf
  rw [ByteArray.data_extract, Array.toList_extract]
  have hz2 : w.data.toList.length = t.size + 4 := by rw [Array.length_toList]; exact hz
  simp [List.extract_eq_take_drop, List.map_drop]
  rw [List.take_of_length_le (by simp only [List.length_map, List.length_drop]; omega)]
theorem crc_app {t x : ByteArray} (h : t.size + x.size ≤ 8000) : crcMoreV (crcMoreV 0 t) x = crcMoreV 0 (t ++ x) := by
  have hlt := crcOf_lt (a := 0) (by omega) t
  have e0 : crcMoreV 0 t = (crcOf 0 t : Int) := by unfold crcMoreV; rw [if_neg (by omega), if_pos (by omega)]; rfl
  rw [e0]
  unfold crcMoreV
  rw [ByteArray.size_append, if_neg (by omega), if_pos (by omega), if_neg (by omega), if_pos (by omega), Int.toNat_natCast]
  unfold crcOf
  rw [bytes_app, Nat.xor_assoc, Nat.xor_self, Nat.xor_zero]
  unfold crcFold
  rw [List.foldl_append]; rfl
theorem seal_tail (k : Nat) (hk : 80001 ≤ k) (t : ByteArray) (ht : t.size ≤ 140737488355328) (l : List Int) (hl : (l.length : Int) ≤ 1048576) : laws_FnSeal.tail k t l = some true := by
  obtain ⟨d, e, hd⟩ := drawcrc_ok hl k hk
  unfold laws_FnSeal.tail
  rw [e, Option.bind_some]
  rw [wrap64_id (by omega) (by omega)]
  by_cases h : (t.size : Int) + (d.2.size : Int) > 8000
  · rw [if_pos h]
  · rw [if_neg h, i_crcMore, Option.bind_some, s_crcMore _ _ _ (by omega), Option.bind_some, if_pos rfl]
    have hc : ∀ t, impl_Crc.f t = some (crcMoreV 0 t) := fun t => by unfold impl_Crc.f; rw [i_crcMore]; rfl
    rw [hc, Option.bind_some, i_crcMore, Option.bind_some, if_pos (by omega), hc, Option.bind_some, crc_app (by omega)]
    simp
theorem lwat_ok {l : List Int} (hb : ∀ x ∈ l, 0 ≤ x ∧ x < 256) (hl : l.length ≤ 1048576) {a m : Int} (ha : 0 ≤ a ∧ a ≤ 1) (hm : 1 < m) : ∃ r, laws_lwAt.f l a m = some r ∧ 0 ≤ r ∧ r < m := by
  unfold laws_lwAt.f
  rw [if_neg (by omega)]
  by_cases h : (l.length : Int) = 0
  · rw [if_pos h]; exact ⟨0, rfl, by omega, by omega⟩
  · have t0 : 0 ≤ Int.tmod a (l.length : Int) := Int.tmod_nonneg _ ha.1
    have t1 : Int.tmod a (l.length : Int) < (l.length : Int) := Int.tmod_lt_of_pos _ (by omega)
    have hr : 0 ≤ rd l (Int.tmod a (l.length : Int)) ∧ rd l (Int.tmod a (l.length : Int)) < 256 := by
      unfold rd
      have hn : (Int.tmod a (l.length : Int)).toNat < l.length := by omega
      rw [List.getD_eq_getElem?_getD, List.getElem?_eq_getElem hn]
      exact hb _ (List.getElem_mem hn)
    rw [if_neg h, if_pos t0, if_pos t1, if_neg (by omega), wrap64_id (by omega) (by omega)]
    exact ⟨_, rfl, Int.tmod_nonneg _ hr.1, Int.tmod_lt_of_pos _ (by omega)⟩
theorem xor_byte {L : List Int} (hL : ∀ c ∈ L, 0 ≤ c ∧ c < 256) {i v : Int} (i0 : 0 ≤ i) (i1 : i < (L.length : Int)) (v0 : 0 ≤ v) (v1 : v < 255) : ∃ x, 0 ≤ x ∧ x < 256 ∧ L[i.toNat]? ≠ some x ∧ Go.bits .xor .u8 (rd L i) (wrap64 (1 + v) % 256) = x := by
  have hn : i.toNat < L.length := by omega
  have hB := hL _ (List.getElem_mem hn)
  have er : rd L i = L[i.toNat] := by
    unfold rd; rw [List.getD_eq_getElem?_getD, List.getElem?_eq_getElem hn]; rfl
  obtain ⟨b', hb'⟩ := Int.eq_ofNat_of_zero_le hB.1
  obtain ⟨v', rfl⟩ := Int.eq_ofNat_of_zero_le v0
  rw [hb'] at hB
  have ew : wrap64 (1 + (v' : Int)) % 256 = ((v' + 1 : Nat) : Int) := by rw [wrap64_id (by omega) (by omega)]; omega
  have h256 : (2 : Nat) ^ IntKind.u8.bits = 256 := rfl
  have hx : b' ^^^ (v' + 1) < 256 := Nat.xor_lt_two_pow (n := 8) (x := b') (y := v' + 1) (by omega) (by omega)
  have m1 : b' % 256 = b' := Nat.mod_eq_of_lt (by omega)
  have m2 : (v' + 1) % 256 = v' + 1 := Nat.mod_eq_of_lt (by omega)
  have ex : Go.bits .xor .u8 (b' : Int) ((v' + 1 : Nat) : Int) = ((b' ^^^ (v' + 1) : Nat) : Int) := by
    rw [bits_xor_nat, h256, m1, m2, IntKind.wrap_u8]
    generalize b' ^^^ (v' + 1) = y at hx
    omega
  refine ⟨_, ?_, ?_, ?_, by rw [er, hb', ew, ex]⟩
  · exact Int.natCast_nonneg _
  · generalize b' ^^^ (v' + 1) = y at hx
    omega
  · rw [List.getElem?_eq_getElem hn, hb']
    intro hh
    have h2 : b' = b' ^^^ (v' + 1) := Int.ofNat.inj (Option.some.inj hh)
    exact flip_ne (by omega) h2.symm
theorem wf_u8 {n : Int} (h : (Lit.int .u8 n).wf = true) : 0 ≤ n ∧ n < 256 := by
  have h' : (decide (IntKind.u8.min ≤ n) && decide (n ≤ IntKind.u8.max)) = true := h
  rw [Bool.and_eq_true, decide_eq_true_eq, decide_eq_true_eq] at h'
  have e1 : IntKind.u8.min = 0 := rfl
  have e2 : IntKind.u8.max = 255 := rfl
  omega
theorem FnSeal : laws_FnSeal.Pure := by
  intro l0 l1 _ _ _ _ _ hw
  refine ⟨90000, ?_⟩
  unfold laws_FnSeal.f
  by_cases h0 : 1048576 < l0.length
  · rw [if_pos h0]
  rw [if_neg h0]
  by_cases h1 : 1048576 < l1.length
  · rw [if_pos h1]
  rw [if_neg h1]
  obtain ⟨t, e, ht⟩ := drawseal_ok (l := l0) (by omega) 90000 (by omega)
  have hT := seal_tail 90000 (by omega) t ht l1 (by omega)
  rw [e, Option.bind_some, i_seal, Option.bind_some, s_seal _ _ (by omega), Option.bind_some, if_pos rfl]
  by_cases hs : sealT t = ⟨#[]⟩
  · rw [if_pos hs]; exact hT
  rw [if_neg hs]
  have h8 : ¬ (t.size : Int) > 7996 := by
    intro h; apply hs; unfold sealT; rw [if_pos h]
  have es : sealT t = t ++ four (crcOf 0 t) := by unfold sealT; rw [if_neg h8]
  have hz : (t ++ four (crcOf 0 t)).size = t.size + 4 := by rw [ByteArray.size_append, four_size]
  have hb : ∀ x ∈ l1, 0 ≤ x ∧ x < 256 := by
    intro x hx; exact wf_u8 (hw x hx)
  rw [es]
  obtain ⟨i, ei, i0, i1⟩ := lwat_ok hb (by omega) (a := 0) (m := ((t ++ four (crcOf 0 t)).size : Int)) (by omega) (by omega)
  obtain ⟨v, ev, v0, v1⟩ := lwat_ok hb (by omega) (a := 1) (m := 255) (by omega) (by omega)
  rw [ei, Option.bind_some, ev, Option.bind_some, if_pos ⟨i0, i1, by omega⟩, i_unseal _ (by omega), Option.bind_some, unseal_seal (by omega), if_pos rfl]
  have key : (unsealT (laws_FnSeal.flip (t ++ four (crcOf 0 t)) i v)).2.2 = 5 := by
    unfold laws_FnSeal.flip
    have hB : ∀ c ∈ bytesOf (t ++ four (crcOf 0 t)), 0 ≤ c ∧ c < 256 := fun c hc => byte_lt _ hc
    obtain ⟨x, x0, x1, xn, xe⟩ := xor_byte hB i0 (by rw [bytes_len]; exact i1) v0 v1
    rw [xe]
    exact unseal_flip (by omega) ⟨x0, x1⟩ (by omega) xn
  have hfz : (laws_FnSeal.flip (t ++ four (crcOf 0 t)) i v).size = t.size + 4 := by
    unfold laws_FnSeal.flip; rw [str_size, List.length_set, bytes_len, hz]
  rw [i_unseal _ (by omega), Option.bind_some, if_pos key]
  exact hT

end Go.Proofs.Ytkbhdiambabnnaa.Pure
