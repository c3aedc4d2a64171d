/- The plain law of FnExactNoteBytes: for all arguments that fit the guards its printed function answers true. -/
import Derived.Test.YtkbhdiambabnnaaPFnExactNoteBytesx
set_option linter.unusedVariables false
set_option linter.unusedSimpArgs false
namespace Go.Proofs.Ytkbhdiambabnnaa.Pure
open Go.RowKit Go.Proofs.Ytkbhdiambabnnaa.PFnExactNoteBytes Go.Proofs.YtkbhdiambabnnaaW.PrintWords Go.Proofs.YtkbhdiambabnnaaW.PrintLast Go.Proofs.YtkbhdiambabnnaaW.PrintMore

theorem s_is (a b c : Int) : spec_l02Is.f a b c = some (decide (b ≤ a ∧ a ≤ c)) := by
  unfold spec_l02Is.f; by_cases h : a ≥ b
  · rw [if_pos h]; by_cases h2 : a ≤ c <;> simp [h, h2]
  · rw [if_neg h]; congr 1; symm; apply decide_eq_false; omega

theorem i_in (a b c : Int) : impl_in.f a b c = some (decide (b ≤ a ∧ a ≤ c)) := by
  unfold impl_in.f; by_cases h : b ≤ a
  · rw [if_pos h]; by_cases h2 : a ≤ c <;> simp [h, h2]
  · rw [if_neg h]; congr 1; symm; apply decide_eq_false; omega


def grp (m : Int) : Bool := decide (0 ≤ m ∧ m ≤ 281474976710655) && (Go.bits .and .i64 (m / 1099511627776) 1 == 1)
theorem s_grp (m : Int) : spec_IsGroup.f m = some (grp m) := by
  unfold spec_IsGroup.f spec_l02Mac.f grp
  simp only [s_is, Option.bind_some]
  by_cases h : 0 ≤ m ∧ m ≤ 281474976710655 <;> simp [h]
theorem i_grp (m : Int) : impl_IsGroup.f m = some (grp m) := by
  unfold impl_IsGroup.f impl_isMac.f grp
  simp only [i_in, Option.bind_some]
  by_cases h : 0 ≤ m ∧ m ≤ 281474976710655 <;> simp [h]
def routeOk (k v m ip o s : Int) (st : Bool) : Bool :=
  decide (1 ≤ v ∧ v ≤ 16777215) && decide (1 ≤ o ∧ o ≤ 4) &&
    ((decide (k = 2) && (decide (0 ≤ m ∧ m ≤ 281474976710655) && (!grp m) && decide (0 ≤ ip ∧ ip ≤ 4294967295) && decide (0 ≤ s ∧ s ≤ 1000000))) ||
     (decide (k = 3) && (decide (m = 0) && decide (ip = 0) && decide (s = 0) && !st)))
theorem s_routeRight (n : Nat) (k v m ip o s : Int) (st : Bool) : spec_RouteRight.f (n + 1) k v m ip o s st = some (routeOk k v m ip o s st) := by
  unfold spec_RouteRight.f spec_l02Vni.f routeOk
  simp only [s_is, Option.bind_some, spec_RouteRight.j0, s_grp, spec_l02Mac.f, spec_l02Ip.f]
  by_cases h1 : 1 ≤ v ∧ v ≤ 16777215
  · by_cases h2 : 1 ≤ o ∧ o ≤ 4
    · by_cases hk : k = 2
      · subst hk
        by_cases h3 : 0 ≤ m ∧ m ≤ 281474976710655
        · cases hg : grp m
          · by_cases h4 : 0 ≤ ip ∧ ip ≤ 4294967295 <;> simp [h1, h2, h3, h4]
          · simp [h1, h2, h3]
        · simp [h1, h2, h3]
      · by_cases hk3 : k = 3
        · subst hk3
          by_cases h3 : m = 0
          · by_cases h4 : ip = 0
            · by_cases h5 : s = 0 <;> simp [h1, h2, h3, h4, h5]
            · simp [h1, h2, h3, h4]
          · simp [h1, h2, h3]
        · simp [h1, h2, hk, hk3]
    · simp [h1, h2]
  · simp [h1]
theorem i_routeRight (n : Nat) (k v m ip o s : Int) (st : Bool) : impl_RouteRight.f (n + 1) k v m ip o s st = some (routeOk k v m ip o s st) := by
  unfold impl_RouteRight.f impl_isVni.f impl_isHouse.f routeOk
  simp only [i_in, Option.bind_some, impl_RouteRight.j0, i_grp, impl_isGuest.f, impl_isMac.f, impl_isIp.f, impl_isTime.f]
  by_cases h1 : 1 ≤ v ∧ v ≤ 16777215
  · by_cases h2 : 1 ≤ o ∧ o ≤ 4
    · by_cases hk : k = 2
      · subst hk
        by_cases h3 : 0 ≤ m ∧ m ≤ 281474976710655
        · cases hg : grp m
          · by_cases h4 : 0 ≤ ip ∧ ip ≤ 4294967295 <;> simp [h1, h2, h3, h4]
          · simp [h1, h2, h3]
        · simp [h1, h2, h3]
      · by_cases hk3 : k = 3
        · subst hk3
          by_cases h3 : m = 0
          · by_cases h4 : ip = 0
            · by_cases h5 : s = 0 <;> simp [h1, h2, h3, h4, h5]
            · simp [h1, h2, h3, h4]
          · simp [h1, h2, h3]
        · simp [h1, h2, hk, hk3]
    · simp [h1, h2]
  · simp [h1]

def noteOk (n k v m ip o s : Int) (st : Bool) : Bool :=
  if n = 1 then routeOk k v m ip o s st
  else if n = 2 then routeOk k v m ip o s st && (decide (ip = 0) && (decide (s = 0) && !st))
  else decide (n = 3) && (decide (k = 0) && (decide (v = 0) && (decide (m = 0) && (decide (ip = 0) && (decide (o = 0) && (decide (s = 0) && !st))))))
theorem s_noteRight (j : Nat) (n k v m ip o s : Int) (st : Bool) : spec_NoteRight.f (j + 1) n k v m ip o s st = some (noteOk n k v m ip o s st) := by
  unfold spec_NoteRight.f noteOk spec_KeyOf.f
  simp only [s_routeRight, Option.bind_some]
  by_cases h1 : n = 1
  · rw [if_pos h1, if_pos h1]
  · rw [if_neg h1, if_neg h1]
    by_cases h2 : n = 2
    · rw [if_pos h2, if_pos h2]
      cases routeOk k v m ip o s st
      · simp
      · cases st
        · simp; rfl
        · simp
    · rw [if_neg h2, if_neg h2]
      by_cases h3 : n = 3
      · rw [if_pos h3]; simp [h3]; cases st <;> rfl
      · simp [h3]
theorem i_noteRight (j : Nat) (n k v m ip o s : Int) (st : Bool) : impl_NoteRight.f (j + 1) n k v m ip o s st = some (noteOk n k v m ip o s st) := by
  unfold impl_NoteRight.f noteOk impl_KeyOf.f
  simp only [i_routeRight, Option.bind_some]
  by_cases h1 : n = 1
  · rw [if_pos h1, if_pos h1]
  · rw [if_neg h1, if_neg h1]
    by_cases h2 : n = 2
    · rw [if_pos h2, if_pos h2]
      cases routeOk k v m ip o s st
      · simp
      · cases st
        · simp; rfl
        · simp
    · rw [if_neg h2, if_neg h2]
      by_cases h3 : n = 3
      · simp [h3]; cases st <;> rfl
      · simp [h3]

theorem bits_xor_nat (k : IntKind) (a b : Nat) : Go.bits .xor k a b = k.wrap (((a % 2 ^ k.bits) ^^^ (b % 2 ^ k.bits) : Nat) : Int) := by
  simp only [Go.bits, BitVec.ofInt_natCast, BitVec.toNat_xor, BitVec.toNat_ofNat]
theorem bits_or_nat (k : IntKind) (a b : Nat) : Go.bits .or k a b = k.wrap (((a % 2 ^ k.bits) ||| (b % 2 ^ k.bits) : Nat) : Int) := by
  simp only [Go.bits, BitVec.ofInt_natCast, BitVec.toNat_or, BitVec.toNat_ofNat]
theorem bits_and_nat (k : IntKind) (a b : Nat) : Go.bits .and k a b = k.wrap (((a % 2 ^ k.bits) &&& (b % 2 ^ k.bits) : Nat) : Int) := by
  simp only [Go.bits, BitVec.ofInt_natCast, BitVec.toNat_and, BitVec.toNat_ofNat]
theorem wrap_u64 (n : Int) : IntKind.u64.wrap n = n % 18446744073709551616 := by simp [IntKind.wrap, IntKind.bits, IntKind.signed]
theorem wf_i64 {n : Int} (h : (Lit.int .i64 n).wf = true) : -9223372036854775808 ≤ n ∧ n ≤ 9223372036854775807 := by
  simp [Lit.wf, IntKind.signed, IntKind.bits, IntKind.min, IntKind.max] at h
  omega
theorem xor_ones (x : Nat) (h : x < 18446744073709551616) : x ^^^ 18446744073709551615 = 18446744073709551615 - x := by
  have e := BitVec.toNat_not (x := BitVec.ofNat 64 x)
  rw [← BitVec.xor_allOnes, BitVec.toNat_xor, BitVec.toNat_allOnes, BitVec.toNat_ofNat] at e
  rw [Nat.mod_eq_of_lt (by simpa using h)] at e
  simpa using e
theorem wrap64_id {x : Int} (h0 : -9223372036854775808 ≤ x) (h1 : x ≤ 9223372036854775807) : wrap64 x = x := by unfold wrap64; omega
theorem u64_id {x : Int} (h0 : 0 ≤ x) (h1 : x < 18446744073709551616) : IntKind.u64.wrap x = x := by rw [wrap_u64]; omega
theorem tmod_nat (a b : Nat) : Int.tmod (a : Int) (b : Int) = ((a % b : Nat) : Int) := by rw [Int.tmod_eq_emod_of_nonneg (by omega)]; simp
theorem tdiv_nat (a b : Nat) : Int.tdiv (a : Int) (b : Int) = ((a / b : Nat) : Int) := by rw [Int.tdiv_eq_ediv_of_nonneg (by omega)]; simp

def vi : Nat → Nat → List Int
  | 0, _ => []
  | f + 1, u => if u < 128 then [(u : Int)] else ((u % 128 + 128 : Nat) : Int) :: vi f (u / 128)
def zz (n : Int) : Nat := (if n < 0 then -2 * n - 1 else 2 * n).toNat
def encN (n : Int) : ByteArray := strOfNums (vi 10 (zz n))
theorem zz_lt {n : Int} (h : -9223372036854775808 ≤ n ∧ n ≤ 9223372036854775807) : zz n < 18446744073709551616 := by
  unfold zz; split <;> omega
theorem zz_cast (n : Int) : (zz n : Int) = if n < 0 then -2 * n - 1 else 2 * n := by
  unfold zz; split <;> omega
theorem pow128 : (128 : Nat) ^ 10 = 1180591620717411303424 := by decide

theorem vi_len : ∀ (f u : Nat), (vi f u).length ≤ f
  | 0, _ => by simp [vi]
  | f + 1, u => by
    rw [vi]; split
    · simp
    · have := vi_len f (u / 128); simp; omega
theorem str_size (xs : List Int) : (strOfNums xs).size = xs.length := by simp [strOfNums, ByteArray.size]
theorem encN_size (n : Int) : (encN n).size ≤ 10 := by
  unfold encN; rw [str_size]; exact vi_len _ _

def routeEnc (k v m ip o s : Int) (st : Bool) : ByteArray := ((((((encN k ++ encN v) ++ encN m) ++ encN ip) ++ encN o) ++ encN s) ++ encN (if st = true then 1 else 0))
def routeBytes (k v m ip o s : Int) (st : Bool) : ByteArray := if routeOk k v m ip o s st = true then routeEnc k v m ip o s st else ⟨#[]⟩
/-- What a valid route's numbers are. -/
theorem routeOk_bd {k v m ip o s : Int} {st : Bool} (h : routeOk k v m ip o s st = true) :
    (k = 2 ∨ k = 3) ∧ (1 ≤ v ∧ v ≤ 16777215) ∧ (0 ≤ m ∧ m ≤ 281474976710655) ∧ (0 ≤ ip ∧ ip ≤ 4294967295) ∧ (1 ≤ o ∧ o ≤ 4) ∧ (0 ≤ s ∧ s ≤ 1000000) := by
  unfold routeOk at h
  simp only [Bool.and_eq_true, Bool.or_eq_true, decide_eq_true_eq] at h
  obtain ⟨⟨hv, ho⟩, ⟨hk, ⟨⟨hm, _⟩, hi⟩, hs⟩ | ⟨hk, ⟨⟨hm, hi⟩, hs⟩, _⟩⟩ := h
  · exact ⟨.inl hk, hv, hm, hi, ho, hs⟩
  · exact ⟨.inr hk, hv, by omega, by omega, ho, by omega⟩

def noteEnc (n k v m ip o s : Int) (st : Bool) : ByteArray := if n = 3 then encN n else encN n ++ routeEnc k v m ip o s st
def noteBytes (n k v m ip o s : Int) (st : Bool) : ByteArray := if noteOk n k v m ip o s st = true then noteEnc n k v m ip o s st else ⟨#[]⟩
theorem noteOk_bd {n k v m ip o s : Int} {st : Bool} (h : noteOk n k v m ip o s st = true) :
    ((n = 1 ∨ n = 2) ∧ routeOk k v m ip o s st = true) ∨ (n = 3 ∧ k = 0 ∧ v = 0 ∧ m = 0 ∧ ip = 0 ∧ o = 0 ∧ s = 0 ∧ st = false) := by
  unfold noteOk at h
  by_cases h1 : n = 1
  · rw [if_pos h1] at h; exact .inl ⟨.inl h1, h⟩
  · rw [if_neg h1] at h
    by_cases h2 : n = 2
    · rw [if_pos h2] at h
      rw [Bool.and_eq_true] at h
      exact .inl ⟨.inr h2, h.1⟩
    · rw [if_neg h2] at h
      simp only [Bool.and_eq_true, decide_eq_true_eq, Bool.not_eq_true'] at h
      exact .inr h
theorem routeEnc_size (k v m ip o s : Int) (st : Bool) : (routeEnc k v m ip o s st).size ≤ 70 := by
  unfold routeEnc
  have z1 := encN_size k; have z2 := encN_size v; have z3 := encN_size m; have z4 := encN_size ip; have z5 := encN_size o; have z6 := encN_size s; have z7 := encN_size (if st = true then 1 else 0)
  simp only [ByteArray.size_append]
  omega

theorem s_fold {n : Int} (h : -9223372036854775808 ≤ n ∧ n ≤ 9223372036854775807) : spec_l01Fold.f n = some (zz n : Int) := by
  unfold spec_l01Fold.f
  rw [zz_cast]
  by_cases hn : n < 0
  · rw [if_pos hn, if_pos hn]
    have e1 : wrap64 (n + 1) = n + 1 := by unfold wrap64; omega
    have e2 : wrap64 (-(n + 1)) = -(n + 1) := by unfold wrap64; omega
    rw [e1, e2, wrap_u64, wrap_u64, wrap_u64]
    congr 1
    omega
  · rw [if_neg hn, if_neg hn, wrap_u64, wrap_u64]
    congr 1
    omega
theorem s_put_l0 : ∀ (f k u : Nat) (out : List Int), u < 128 ^ (f + 1) → u < 18446744073709551616 → f < k → out.length + f ≤ 100 →
    spec_PutNum.l0 k (u : Int) out = some (strOfNums (out ++ vi (f + 1) u)) := by
  intro f
  induction f with
  | zero =>
    intro k u out h1 _ hk hl
    obtain ⟨k, rfl⟩ : ∃ m, k = m + 1 := ⟨k - 1, by omega⟩
    have hu : u < 128 := by simpa using h1
    simp only [spec_PutNum.l0]
    rw [if_neg (by omega), if_pos (by omega)]
    have e : (u : Int) % 256 = (u : Int) := by omega
    rw [e]
    simp only [vi, if_pos hu]
  | succ f ih =>
    intro k u out h1 h2 hk hl
    obtain ⟨k, rfl⟩ : ∃ m, k = m + 1 := ⟨k - 1, by omega⟩
    by_cases hu : u < 128
    · simp only [spec_PutNum.l0]
      rw [if_neg (by omega), if_pos (by omega)]
      have e : (u : Int) % 256 = (u : Int) := by omega
      rw [e, vi, if_pos hu]
    · simp only [spec_PutNum.l0]
      rw [if_pos (by omega), if_pos (by omega)]
      have e1 : IntKind.u64.wrap (Int.tdiv (u : Int) 128) = ((u / 128 : Nat) : Int) := by
        rw [wrap_u64, Int.tdiv_eq_ediv_of_nonneg (by omega)]; omega
      have e2 : IntKind.u64.wrap (Int.tmod (u : Int) 128 + 128) % 256 = ((u % 128 + 128 : Nat) : Int) := by
        rw [wrap_u64, Int.tmod_eq_emod_of_nonneg (by omega)]; omega
      rw [e1, e2, ih k (u / 128) _ (by rw [Nat.pow_succ] at h1; omega) (by omega) (by omega) (by simp; omega)]
      rw [show vi (f + 1 + 1) u = ((u % 128 + 128 : Nat) : Int) :: vi (f + 1) (u / 128) from by rw [vi, if_neg hu]]
      simp
theorem s_putNum {n : Int} (h : -9223372036854775808 ≤ n ∧ n ≤ 9223372036854775807) (k : Nat) (hk : 10 ≤ k) : spec_PutNum.f k n = some (encN n) := by
  unfold spec_PutNum.f
  rw [s_fold h, Option.bind_some]
  have hz := zz_lt h
  rw [s_put_l0 9 k (zz n) [] (by rw [show 9 + 1 = 10 from rfl, pow128]; omega) hz (by omega) (by simp)]
  rfl

theorem s_l03Bytes {k v m ip o s : Int} {st : Bool} (h : routeOk k v m ip o s st = true) (j : Nat) (hj : 11 ≤ j) : spec_l03Bytes.f j k v m ip o s st = some (routeEnc k v m ip o s st) := by
  obtain ⟨j, rfl⟩ : ∃ q, j = q + 1 := ⟨j - 1, by omega⟩
  obtain ⟨hk, hv, hm, hi, ho, hs⟩ := routeOk_bd h
  have z1 := encN_size k; have z2 := encN_size v; have z3 := encN_size m; have z4 := encN_size ip; have z5 := encN_size o; have z6 := encN_size s; have z7 := encN_size 1; have z8 := encN_size 0
  have e : ∀ b : Int, 0 ≤ b → b ≤ 1 → spec_l03Bytes.j0 (j + 1) b k v m ip o s st = some (((((((encN k ++ encN v) ++ encN m) ++ encN ip) ++ encN o) ++ encN s)) ++ encN b) := by
    intro b b0 b1
    have z9 := encN_size b
    simp only [spec_l03Bytes.j0]
    rw [s_putNum (by omega) j (by omega), s_putNum (by omega) j (by omega), s_putNum (by omega) j (by omega), s_putNum (by omega) j (by omega), s_putNum (by omega) j (by omega), s_putNum (by omega) j (by omega), s_putNum (by omega) j (by omega)]
    simp only [Option.bind_some]
    rw [if_pos (by omega), if_pos (by omega), if_pos (by omega), if_pos (by omega), if_pos (by omega), if_pos (by omega)]
  unfold spec_l03Bytes.f routeEnc
  cases st
  · rw [if_neg (by simp), if_neg (by simp)]; exact e 0 (by omega) (by omega)
  · rw [if_pos rfl, if_pos rfl]; exact e 1 (by omega) (by omega)

theorem s_noteBytes (n k v m ip o s : Int) (st : Bool) (j : Nat) (hj : 11 ≤ j) : spec_NoteBytes.f j n k v m ip o s st = some (noteBytes n k v m ip o s st) := by
  obtain ⟨i, rfl⟩ : ∃ q, j = q + 1 := ⟨j - 1, by omega⟩
  unfold spec_NoteBytes.f noteBytes
  rw [s_noteRight, Option.bind_some]
  by_cases h : noteOk n k v m ip o s st = true
  · rw [if_pos h, if_pos h]
    unfold spec_l04Bytes.f noteEnc
    rcases noteOk_bd h with ⟨h1, hr⟩ | ⟨h3, _⟩
    · have z1 := encN_size n; have z2 := routeEnc_size k v m ip o s st
      rw [if_neg (by omega), if_neg (by omega), s_putNum (by omega) _ (by omega), s_l03Bytes hr _ hj]
      simp only [Option.bind_some]
      rw [if_pos (by omega)]; rfl
    · rw [if_pos h3, if_pos h3, s_putNum (by omega) _ (by omega)]; rfl
  · rw [if_neg h, if_neg h]

theorem i_fold {n : Int} (h : -9223372036854775808 ≤ n ∧ n ≤ 9223372036854775807) :
    Go.bits .xor .u64 (IntKind.u64.wrap ((IntKind.u64.wrap n) * 2)) (IntKind.u64.wrap (n / 9223372036854775808)) = (zz n : Int) := by
  rw [zz_cast, wrap_u64, wrap_u64, wrap_u64]
  by_cases hn : n < 0
  · rw [if_pos hn]
    have e1 : n % 18446744073709551616 * 2 % 18446744073709551616 = ((2 * n + 18446744073709551616).toNat : Int) := by omega
    have e2 : n / 9223372036854775808 % 18446744073709551616 = ((18446744073709551615 : Nat) : Int) := by omega
    rw [e1, e2, bits_xor_nat, wrap_u64]
    have hb : (2 : Nat) ^ IntKind.u64.bits = 18446744073709551616 := by decide
    rw [hb, Nat.mod_eq_of_lt (by omega : (2 * n + 18446744073709551616).toNat < 18446744073709551616), show 18446744073709551615 % 18446744073709551616 = 18446744073709551615 from by decide, xor_ones _ (by omega)]
    omega
  · rw [if_neg hn]
    have e1 : n % 18446744073709551616 * 2 % 18446744073709551616 = ((2 * n).toNat : Int) := by omega
    have e2 : n / 9223372036854775808 % 18446744073709551616 = ((0 : Nat) : Int) := by omega
    rw [e1, e2, bits_xor_nat, wrap_u64]
    have hb : (2 : Nat) ^ IntKind.u64.bits = 18446744073709551616 := by decide
    rw [hb, Nat.mod_eq_of_lt (by omega : (2 * n).toNat < 18446744073709551616), Nat.zero_mod, Nat.xor_zero]
    omega
set_option maxRecDepth 10000 in
theorem or128 : ∀ b : Nat, b < 256 → b ||| 128 = b % 128 + 128 := by decide +kernel
theorem i_or (u : Nat) : Go.bits .or .u8 ((u : Int) % 256) 128 = ((u % 128 + 128 : Nat) : Int) := by
  have e : (u : Int) % 256 = ((u % 256 : Nat) : Int) := by omega
  have e2 : (128 : Int) = ((128 : Nat) : Int) := rfl
  rw [e, e2, bits_or_nat, IntKind.wrap_u8]
  have hb : (2 : Nat) ^ IntKind.u8.bits = 256 := by decide
  rw [hb, Nat.mod_mod, show 128 % 256 = 128 from rfl, or128 (u % 256) (by omega)]
  omega
theorem i_put_l0 : ∀ (f k u : Nat) (out : List Int), u < 128 ^ (f + 1) → u < 18446744073709551616 → f < k → out.length + f ≤ 100 →
    impl_PutNum.l0 k (u : Int) out = some (strOfNums (out ++ vi (f + 1) u)) := by
  intro f
  induction f with
  | zero =>
    intro k u out h1 _ hk hl
    obtain ⟨k, rfl⟩ : ∃ m, k = m + 1 := ⟨k - 1, by omega⟩
    have hu : u < 128 := by simpa using h1
    simp only [impl_PutNum.l0]
    rw [if_neg (by omega), if_pos (by omega)]
    have e : (u : Int) % 256 = (u : Int) := by omega
    rw [e]
    simp only [vi, if_pos hu]
  | succ f ih =>
    intro k u out h1 h2 hk hl
    obtain ⟨k, rfl⟩ : ∃ m, k = m + 1 := ⟨k - 1, by omega⟩
    by_cases hu : u < 128
    · simp only [impl_PutNum.l0]
      rw [if_neg (by omega), if_pos (by omega)]
      have e : (u : Int) % 256 = (u : Int) := by omega
      rw [e, vi, if_pos hu]
    · simp only [impl_PutNum.l0]
      rw [if_pos (by omega), if_pos (by omega)]
      have e1 : (u : Int) / 128 = ((u / 128 : Nat) : Int) := by omega
      rw [e1, i_or, ih k (u / 128) _ (by rw [Nat.pow_succ] at h1; omega) (by omega) (by omega) (by simp; omega)]
      rw [show vi (f + 1 + 1) u = ((u % 128 + 128 : Nat) : Int) :: vi (f + 1) (u / 128) from by rw [vi, if_neg hu]]
      simp
theorem i_putNum {n : Int} (h : -9223372036854775808 ≤ n ∧ n ≤ 9223372036854775807) (k : Nat) (hk : 10 ≤ k) : impl_PutNum.f k n = some (encN n) := by
  unfold impl_PutNum.f
  rw [i_fold h]
  have hz := zz_lt h
  rw [i_put_l0 9 k (zz n) [] (by rw [show 9 + 1 = 10 from rfl, pow128]; omega) hz (by omega) (by simp)]
  rfl

theorem i_flag (b : Bool) : impl_flag.f b = some (if b = true then 1 else 0) := by
  unfold impl_flag.f; split <;> rfl
theorem i_routeBytes (k v m ip o s : Int) (st : Bool) (j : Nat) (hj : 11 ≤ j) : impl_RouteBytes.f j k v m ip o s st = some (routeBytes k v m ip o s st) := by
  obtain ⟨i, rfl⟩ : ∃ q, j = q + 1 := ⟨j - 1, by omega⟩
  unfold impl_RouteBytes.f routeBytes
  rw [i_routeRight, Option.bind_some]
  by_cases h : routeOk k v m ip o s st = true
  · rw [if_pos h, if_pos h]
    obtain ⟨hk, hv, hm, hi, ho, hs⟩ := routeOk_bd h
    have z1 := encN_size k; have z2 := encN_size v; have z3 := encN_size m; have z4 := encN_size ip; have z5 := encN_size o; have z6 := encN_size s; have z7 := encN_size (if st = true then 1 else 0)
    have hb : 0 ≤ (if st = true then 1 else 0 : Int) ∧ (if st = true then 1 else 0 : Int) ≤ 1 := by split <;> omega
    rw [i_flag]
    simp only [Option.bind_some]
    unfold routeEnc
    generalize (if st = true then 1 else 0 : Int) = b at *
    rw [i_putNum (by omega) _ (by omega), i_putNum (by omega) _ (by omega), i_putNum (by omega) _ (by omega), i_putNum (by omega) _ (by omega), i_putNum (by omega) _ (by omega), i_putNum (by omega) _ (by omega), i_putNum (by omega) _ (by omega)]
    simp only [Option.bind_some]
    rw [if_pos (by omega), if_pos (by omega), if_pos (by omega), if_pos (by omega), if_pos (by omega), if_pos (by omega)]
  · rw [if_neg h, if_neg h]

theorem i_noteBytes (n k v m ip o s : Int) (st : Bool) (j : Nat) (hj : 11 ≤ j) : impl_NoteBytes.f j n k v m ip o s st = some (noteBytes n k v m ip o s st) := by
  obtain ⟨i, rfl⟩ : ∃ q, j = q + 1 := ⟨j - 1, by omega⟩
  unfold impl_NoteBytes.f noteBytes
  rw [i_noteRight, Option.bind_some]
  by_cases h : noteOk n k v m ip o s st = true
  · rw [if_pos h, if_pos h, i_routeBytes _ _ _ _ _ _ _ _ hj]
    unfold noteEnc routeBytes
    have z1 := encN_size n; have z2 := routeEnc_size k v m ip o s st
    rcases noteOk_bd h with ⟨h1, hr⟩ | ⟨h3, rfl, rfl, rfl, rfl, rfl, rfl, rfl⟩
    · rw [if_neg (by omega : ¬ n = 3), i_putNum (by omega) _ (by omega), if_pos hr]
      simp only [Option.bind_some]
      rw [if_pos (by omega)]
    · rw [if_pos h3, i_putNum (by omega) _ (by omega), if_neg (by decide)]
      simp only [Option.bind_some]
      rw [if_pos (by have e : (⟨#[]⟩ : ByteArray).size = 0 := rfl; omega)]
      congr 1
      apply ByteArray.ext
      simp
  · rw [if_neg h, if_neg h]


--@use notebytes
theorem FnExactNoteBytes : laws_FnExactNoteBytes.Pure := by
  intro n k v m ip o s st _ _ _ _ _ _ _
  refine ⟨11, ?_⟩
  unfold laws_FnExactNoteBytes.f laws_toNote.f laws_toRoute.f
  simp only [Option.bind_some]
  rw [s_noteBytes _ _ _ _ _ _ _ _ _ (by omega), i_noteBytes _ _ _ _ _ _ _ _ _ (by omega)]
  simp

end Go.Proofs.Ytkbhdiambabnnaa.Pure
