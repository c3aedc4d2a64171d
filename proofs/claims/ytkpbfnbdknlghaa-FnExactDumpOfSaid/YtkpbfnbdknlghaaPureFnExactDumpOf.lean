/- The plain law of FnExactDumpOf: for all arguments that fit the guards its printed function answers true. -/
import Derived.Test.YtkpbfnbdknlghaaPFnExactDumpOfx
set_option linter.unusedVariables false
set_option linter.unusedSimpArgs false
namespace Go.Proofs.Ytkpbfnbdknlghaa.Pure
open Go.RowKit Go.Proofs.Ytkpbfnbdknlghaa.PFnExactDumpOf Go.Proofs.YtkpbfnbdknlghaaW.PrintWords Go.Proofs.YtkpbfnbdknlghaaW.PrintLast Go.Proofs.YtkpbfnbdknlghaaW.PrintMore

theorem s_is (a b c : Int) : spec_l02Is.f a b c = some (decide (b ≤ a ∧ a ≤ c)) := by
  unfold spec_l02Is.f; by_cases h : a ≥ b
  · rw [if_pos h]; by_cases h2 : a ≤ c <;> simp [h, h2]
  · rw [if_neg h]; congr 1; symm; apply decide_eq_false; omega

theorem i_in (a b c : Int) : impl_in.f a b c = some (decide (b ≤ a ∧ a ≤ c)) := by
  unfold impl_in.f; by_cases h : b ≤ a
  · rw [if_pos h]; by_cases h2 : a ≤ c <;> simp [h, h2]
  · rw [if_neg h]; congr 1; symm; apply decide_eq_false; omega


def grp (m : Int) : Bool := decide (0 ≤ m ∧ m ≤ 281474976710655) && (Go.bits .and .i64 (m / 1099511627776) 1 == 1)
theorem s_grp (m : Int) : spec_IsGroup.f m = some (grp m) := by
  unfold spec_IsGroup.f spec_l02Mac.f grp
  simp only [s_is, Option.bind_some]
  by_cases h : 0 ≤ m ∧ m ≤ 281474976710655 <;> simp [h]
theorem i_grp (m : Int) : impl_IsGroup.f m = some (grp m) := by
  unfold impl_IsGroup.f impl_isMac.f grp
  simp only [i_in, Option.bind_some]
  by_cases h : 0 ≤ m ∧ m ≤ 281474976710655 <;> simp [h]
def routeOk (k v m ip o s : Int) (st : Bool) : Bool :=
  decide (1 ≤ v ∧ v ≤ 16777215) && decide (1 ≤ o ∧ o ≤ 4) &&
    ((decide (k = 2) && (decide (0 ≤ m ∧ m ≤ 281474976710655) && (!grp m) && decide (0 ≤ ip ∧ ip ≤ 4294967295) && decide (0 ≤ s ∧ s ≤ 1000000))) ||
     (decide (k = 3) && (decide (m = 0) && decide (ip = 0) && decide (s = 0) && !st)))
theorem s_routeRight (n : Nat) (k v m ip o s : Int) (st : Bool) : spec_RouteRight.f (n + 1) k v m ip o s st = some (routeOk k v m ip o s st) := by
  unfold spec_RouteRight.f spec_l02Vni.f routeOk
  simp only [s_is, Option.bind_some, spec_RouteRight.j0, s_grp, spec_l02Mac.f, spec_l02Ip.f]
  by_cases h1 : 1 ≤ v ∧ v ≤ 16777215
  · by_cases h2 : 1 ≤ o ∧ o ≤ 4
    · by_cases hk : k = 2
      · subst hk
        by_cases h3 : 0 ≤ m ∧ m ≤ 281474976710655
        · cases hg : grp m
          · by_cases h4 : 0 ≤ ip ∧ ip ≤ 4294967295 <;> simp [h1, h2, h3, h4]
          · simp [h1, h2, h3]
        · simp [h1, h2, h3]
      · by_cases hk3 : k = 3
        · subst hk3
          by_cases h3 : m = 0
          · by_cases h4 : ip = 0
            · by_cases h5 : s = 0 <;> simp [h1, h2, h3, h4, h5]
            · simp [h1, h2, h3, h4]
          · simp [h1, h2, h3]
        · simp [h1, h2, hk, hk3]
    · simp [h1, h2]
  · simp [h1]
theorem i_routeRight (n : Nat) (k v m ip o s : Int) (st : Bool) : impl_RouteRight.f (n + 1) k v m ip o s st = some (routeOk k v m ip o s st) := by
  unfold impl_RouteRight.f impl_isVni.f impl_isHouse.f routeOk
  simp only [i_in, Option.bind_some, impl_RouteRight.j0, i_grp, impl_isGuest.f, impl_isMac.f, impl_isIp.f, impl_isTime.f]
  by_cases h1 : 1 ≤ v ∧ v ≤ 16777215
  · by_cases h2 : 1 ≤ o ∧ o ≤ 4
    · by_cases hk : k = 2
      · subst hk
        by_cases h3 : 0 ≤ m ∧ m ≤ 281474976710655
        · cases hg : grp m
          · by_cases h4 : 0 ≤ ip ∧ ip ≤ 4294967295 <;> simp [h1, h2, h3, h4]
          · simp [h1, h2, h3]
        · simp [h1, h2, h3]
      · by_cases hk3 : k = 3
        · subst hk3
          by_cases h3 : m = 0
          · by_cases h4 : ip = 0
            · by_cases h5 : s = 0 <;> simp [h1, h2, h3, h4, h5]
            · simp [h1, h2, h3, h4]
          · simp [h1, h2, h3]
        · simp [h1, h2, hk, hk3]
    · simp [h1, h2]
  · simp [h1]

def noteOk (n k v m ip o s : Int) (st : Bool) : Bool :=
  if n = 1 then routeOk k v m ip o s st
  else if n = 2 then routeOk k v m ip o s st && (decide (ip = 0) && (decide (s = 0) && !st))
  else decide (n = 3) && (decide (k = 0) && (decide (v = 0) && (decide (m = 0) && (decide (ip = 0) && (decide (o = 0) && (decide (s = 0) && !st))))))

theorem bits_xor_nat (k : IntKind) (a b : Nat) : Go.bits .xor k a b = k.wrap (((a % 2 ^ k.bits) ^^^ (b % 2 ^ k.bits) : Nat) : Int) := by
  simp only [Go.bits, BitVec.ofInt_natCast, BitVec.toNat_xor, BitVec.toNat_ofNat]
theorem bits_or_nat (k : IntKind) (a b : Nat) : Go.bits .or k a b = k.wrap (((a % 2 ^ k.bits) ||| (b % 2 ^ k.bits) : Nat) : Int) := by
  simp only [Go.bits, BitVec.ofInt_natCast, BitVec.toNat_or, BitVec.toNat_ofNat]
theorem bits_and_nat (k : IntKind) (a b : Nat) : Go.bits .and k a b = k.wrap (((a % 2 ^ k.bits) &&& (b % 2 ^ k.bits) : Nat) : Int) := by
  simp only [Go.bits, BitVec.ofInt_natCast, BitVec.toNat_and, BitVec.toNat_ofNat]
theorem wrap_u64 (n : Int) : IntKind.u64.wrap n = n % 18446744073709551616 := by simp [IntKind.wrap, IntKind.bits, IntKind.signed]
theorem wf_i64 {n : Int} (h : (Lit.int .i64 n).wf = true) : -9223372036854775808 ≤ n ∧ n ≤ 9223372036854775807 := by
  simp [Lit.wf, IntKind.signed, IntKind.bits, IntKind.min, IntKind.max] at h
  omega
theorem xor_ones (x : Nat) (h : x < 18446744073709551616) : x ^^^ 18446744073709551615 = 18446744073709551615 - x := by
  have e := BitVec.toNat_not (x := BitVec.ofNat 64 x)
  rw [← BitVec.xor_allOnes, BitVec.toNat_xor, BitVec.toNat_allOnes, BitVec.toNat_ofNat] at e
  rw [Nat.mod_eq_of_lt (by simpa using h)] at e
  simpa using e
theorem wrap64_id {x : Int} (h0 : -9223372036854775808 ≤ x) (h1 : x ≤ 9223372036854775807) : wrap64 x = x := by unfold wrap64; omega
theorem u64_id {x : Int} (h0 : 0 ≤ x) (h1 : x < 18446744073709551616) : IntKind.u64.wrap x = x := by rw [wrap_u64]; omega
theorem tmod_nat (a b : Nat) : Int.tmod (a : Int) (b : Int) = ((a % b : Nat) : Int) := by rw [Int.tmod_eq_emod_of_nonneg (by omega)]; simp
theorem tdiv_nat (a b : Nat) : Int.tdiv (a : Int) (b : Int) = ((a / b : Nat) : Int) := by rw [Int.tdiv_eq_ediv_of_nonneg (by omega)]; simp

def vi : Nat → Nat → List Int
  | 0, _ => []
  | f + 1, u => if u < 128 then [(u : Int)] else ((u % 128 + 128 : Nat) : Int) :: vi f (u / 128)
def zz (n : Int) : Nat := (if n < 0 then -2 * n - 1 else 2 * n).toNat
def encN (n : Int) : ByteArray := strOfNums (vi 10 (zz n))
theorem zz_lt {n : Int} (h : -9223372036854775808 ≤ n ∧ n ≤ 9223372036854775807) : zz n < 18446744073709551616 := by
  unfold zz; split <;> omega
theorem zz_cast (n : Int) : (zz n : Int) = if n < 0 then -2 * n - 1 else 2 * n := by
  unfold zz; split <;> omega
theorem pow128 : (128 : Nat) ^ 10 = 1180591620717411303424 := by decide

theorem vi_len : ∀ (f u : Nat), (vi f u).length ≤ f
  | 0, _ => by simp [vi]
  | f + 1, u => by
    rw [vi]; split
    · simp
    · have := vi_len f (u / 128); simp; omega
theorem str_size (xs : List Int) : (strOfNums xs).size = xs.length := by simp [strOfNums, ByteArray.size]
theorem encN_size (n : Int) : (encN n).size ≤ 10 := by
  unfold encN; rw [str_size]; exact vi_len _ _

def routeEnc (k v m ip o s : Int) (st : Bool) : ByteArray := ((((((encN k ++ encN v) ++ encN m) ++ encN ip) ++ encN o) ++ encN s) ++ encN (if st = true then 1 else 0))
def routeBytes (k v m ip o s : Int) (st : Bool) : ByteArray := if routeOk k v m ip o s st = true then routeEnc k v m ip o s st else ⟨#[]⟩
/-- What a valid route's numbers are. -/
theorem routeOk_bd {k v m ip o s : Int} {st : Bool} (h : routeOk k v m ip o s st = true) :
    (k = 2 ∨ k = 3) ∧ (1 ≤ v ∧ v ≤ 16777215) ∧ (0 ≤ m ∧ m ≤ 281474976710655) ∧ (0 ≤ ip ∧ ip ≤ 4294967295) ∧ (1 ≤ o ∧ o ≤ 4) ∧ (0 ≤ s ∧ s ≤ 1000000) := by
  unfold routeOk at h
  simp only [Bool.and_eq_true, Bool.or_eq_true, decide_eq_true_eq] at h
  obtain ⟨⟨hv, ho⟩, ⟨hk, ⟨⟨hm, _⟩, hi⟩, hs⟩ | ⟨hk, ⟨⟨hm, hi⟩, hs⟩, _⟩⟩ := h
  · exact ⟨.inl hk, hv, hm, hi, ho, hs⟩
  · exact ⟨.inr hk, hv, by omega, by omega, ho, by omega⟩

def noteEnc (n k v m ip o s : Int) (st : Bool) : ByteArray := if n = 3 then encN n else encN n ++ routeEnc k v m ip o s st
def noteBytes (n k v m ip o s : Int) (st : Bool) : ByteArray := if noteOk n k v m ip o s st = true then noteEnc n k v m ip o s st else ⟨#[]⟩
theorem noteOk_bd {n k v m ip o s : Int} {st : Bool} (h : noteOk n k v m ip o s st = true) :
    ((n = 1 ∨ n = 2) ∧ routeOk k v m ip o s st = true) ∨ (n = 3 ∧ k = 0 ∧ v = 0 ∧ m = 0 ∧ ip = 0 ∧ o = 0 ∧ s = 0 ∧ st = false) := by
  unfold noteOk at h
  by_cases h1 : n = 1
  · rw [if_pos h1] at h; exact .inl ⟨.inl h1, h⟩
  · rw [if_neg h1] at h
    by_cases h2 : n = 2
    · rw [if_pos h2] at h
      rw [Bool.and_eq_true] at h
      exact .inl ⟨.inr h2, h.1⟩
    · rw [if_neg h2] at h
      simp only [Bool.and_eq_true, decide_eq_true_eq, Bool.not_eq_true'] at h
      exact .inr h
theorem routeEnc_size (k v m ip o s : Int) (st : Bool) : (routeEnc k v m ip o s st).size ≤ 70 := by
  unfold routeEnc
  have z1 := encN_size k; have z2 := encN_size v; have z3 := encN_size m; have z4 := encN_size ip; have z5 := encN_size o; have z6 := encN_size s; have z7 := encN_size (if st = true then 1 else 0)
  simp only [ByteArray.size_append]
  omega

theorem i_noteRight (j : Nat) (n k v m ip o s : Int) (st : Bool) : impl_NoteRight.f (j + 1) n k v m ip o s st = some (noteOk n k v m ip o s st) := by
  unfold impl_NoteRight.f noteOk impl_KeyOf.f
  simp only [i_routeRight, Option.bind_some]
  by_cases h1 : n = 1
  · rw [if_pos h1, if_pos h1]
  · rw [if_neg h1, if_neg h1]
    by_cases h2 : n = 2
    · rw [if_pos h2, if_pos h2]
      cases routeOk k v m ip o s st
      · simp
      · cases st
        · simp; rfl
        · simp
    · rw [if_neg h2, if_neg h2]
      by_cases h3 : n = 3
      · simp [h3]; cases st <;> rfl
      · simp [h3]

theorem i_fold {n : Int} (h : -9223372036854775808 ≤ n ∧ n ≤ 9223372036854775807) :
    Go.bits .xor .u64 (IntKind.u64.wrap ((IntKind.u64.wrap n) * 2)) (IntKind.u64.wrap (n / 9223372036854775808)) = (zz n : Int) := by
  rw [zz_cast, wrap_u64, wrap_u64, wrap_u64]
  by_cases hn : n < 0
  · rw [if_pos hn]
    have e1 : n % 18446744073709551616 * 2 % 18446744073709551616 = ((2 * n + 18446744073709551616).toNat : Int) := by omega
    have e2 : n / 9223372036854775808 % 18446744073709551616 = ((18446744073709551615 : Nat) : Int) := by omega
    rw [e1, e2, bits_xor_nat, wrap_u64]
    have hb : (2 : Nat) ^ IntKind.u64.bits = 18446744073709551616 := by decide
    rw [hb, Nat.mod_eq_of_lt (by omega : (2 * n + 18446744073709551616).toNat < 18446744073709551616), show 18446744073709551615 % 18446744073709551616 = 18446744073709551615 from by decide, xor_ones _ (by omega)]
    omega
  · rw [if_neg hn]
    have e1 : n % 18446744073709551616 * 2 % 18446744073709551616 = ((2 * n).toNat : Int) := by omega
    have e2 : n / 9223372036854775808 % 18446744073709551616 = ((0 : Nat) : Int) := by omega
    rw [e1, e2, bits_xor_nat, wrap_u64]
    have hb : (2 : Nat) ^ IntKind.u64.bits = 18446744073709551616 := by decide
    rw [hb, Nat.mod_eq_of_lt (by omega : (2 * n).toNat < 18446744073709551616), Nat.zero_mod, Nat.xor_zero]
    omega
set_option maxRecDepth 10000 in
theorem or128 : ∀ b : Nat, b < 256 → b ||| 128 = b % 128 + 128 := by decide +kernel
theorem i_or (u : Nat) : Go.bits .or .u8 ((u : Int) % 256) 128 = ((u % 128 + 128 : Nat) : Int) := by
  have e : (u : Int) % 256 = ((u % 256 : Nat) : Int) := by omega
  have e2 : (128 : Int) = ((128 : Nat) : Int) := rfl
  rw [e, e2, bits_or_nat, IntKind.wrap_u8]
  have hb : (2 : Nat) ^ IntKind.u8.bits = 256 := by decide
  rw [hb, Nat.mod_mod, show 128 % 256 = 128 from rfl, or128 (u % 256) (by omega)]
  omega
theorem i_put_l0 : ∀ (f k u : Nat) (out : List Int), u < 128 ^ (f + 1) → u < 18446744073709551616 → f < k → out.length + f ≤ 100 →
    impl_PutNum.l0 k (u : Int) out = some (strOfNums (out ++ vi (f + 1) u)) := by
  intro f
  induction f with
  | zero =>
    intro k u out h1 _ hk hl
    obtain ⟨k, rfl⟩ : ∃ m, k = m + 1 := ⟨k - 1, by omega⟩
    have hu : u < 128 := by simpa using h1
    simp only [impl_PutNum.l0]
    rw [if_neg (by omega), if_pos (by omega)]
    have e : (u : Int) % 256 = (u : Int) := by omega
    rw [e]
    simp only [vi, if_pos hu]
  | succ f ih =>
    intro k u out h1 h2 hk hl
    obtain ⟨k, rfl⟩ : ∃ m, k = m + 1 := ⟨k - 1, by omega⟩
    by_cases hu : u < 128
    · simp only [impl_PutNum.l0]
      rw [if_neg (by omega), if_pos (by omega)]
      have e : (u : Int) % 256 = (u : Int) := by omega
      rw [e, vi, if_pos hu]
    · simp only [impl_PutNum.l0]
      rw [if_pos (by omega), if_pos (by omega)]
      have e1 : (u : Int) / 128 = ((u / 128 : Nat) : Int) := by omega
      rw [e1, i_or, ih k (u / 128) _ (by rw [Nat.pow_succ] at h1; omega) (by omega) (by omega) (by simp; omega)]
      rw [show vi (f + 1 + 1) u = ((u % 128 + 128 : Nat) : Int) :: vi (f + 1) (u / 128) from by rw [vi, if_neg hu]]
      simp
theorem i_putNum {n : Int} (h : -9223372036854775808 ≤ n ∧ n ≤ 9223372036854775807) (k : Nat) (hk : 10 ≤ k) : impl_PutNum.f k n = some (encN n) := by
  unfold impl_PutNum.f
  rw [i_fold h]
  have hz := zz_lt h
  rw [i_put_l0 9 k (zz n) [] (by rw [show 9 + 1 = 10 from rfl, pow128]; omega) hz (by omega) (by simp)]
  rfl

theorem i_flag (b : Bool) : impl_flag.f b = some (if b = true then 1 else 0) := by
  unfold impl_flag.f; split <;> rfl
theorem i_routeBytes (k v m ip o s : Int) (st : Bool) (j : Nat) (hj : 11 ≤ j) : impl_RouteBytes.f j k v m ip o s st = some (routeBytes k v m ip o s st) := by
  obtain ⟨i, rfl⟩ : ∃ q, j = q + 1 := ⟨j - 1, by omega⟩
  unfold impl_RouteBytes.f routeBytes
  rw [i_routeRight, Option.bind_some]
  by_cases h : routeOk k v m ip o s st = true
  · rw [if_pos h, if_pos h]
    obtain ⟨hk, hv, hm, hi, ho, hs⟩ := routeOk_bd h
    have z1 := encN_size k; have z2 := encN_size v; have z3 := encN_size m; have z4 := encN_size ip; have z5 := encN_size o; have z6 := encN_size s; have z7 := encN_size (if st = true then 1 else 0)
    have hb : 0 ≤ (if st = true then 1 else 0 : Int) ∧ (if st = true then 1 else 0 : Int) ≤ 1 := by split <;> omega
    rw [i_flag]
    simp only [Option.bind_some]
    unfold routeEnc
    generalize (if st = true then 1 else 0 : Int) = b at *
    rw [i_putNum (by omega) _ (by omega), i_putNum (by omega) _ (by omega), i_putNum (by omega) _ (by omega), i_putNum (by omega) _ (by omega), i_putNum (by omega) _ (by omega), i_putNum (by omega) _ (by omega), i_putNum (by omega) _ (by omega)]
    simp only [Option.bind_some]
    rw [if_pos (by omega), if_pos (by omega), if_pos (by omega), if_pos (by omega), if_pos (by omega), if_pos (by omega)]
  · rw [if_neg h, if_neg h]

theorem i_noteBytes (n k v m ip o s : Int) (st : Bool) (j : Nat) (hj : 11 ≤ j) : impl_NoteBytes.f j n k v m ip o s st = some (noteBytes n k v m ip o s st) := by
  obtain ⟨i, rfl⟩ : ∃ q, j = q + 1 := ⟨j - 1, by omega⟩
  unfold impl_NoteBytes.f noteBytes
  rw [i_noteRight, Option.bind_some]
  by_cases h : noteOk n k v m ip o s st = true
  · rw [if_pos h, if_pos h, i_routeBytes _ _ _ _ _ _ _ _ hj]
    unfold noteEnc routeBytes
    have z1 := encN_size n; have z2 := routeEnc_size k v m ip o s st
    rcases noteOk_bd h with ⟨h1, hr⟩ | ⟨h3, rfl, rfl, rfl, rfl, rfl, rfl, rfl⟩
    · rw [if_neg (by omega : ¬ n = 3), i_putNum (by omega) _ (by omega), if_pos hr]
      simp only [Option.bind_some]
      rw [if_pos (by omega)]
    · rw [if_pos h3, i_putNum (by omega) _ (by omega), if_neg (by decide)]
      simp only [Option.bind_some]
      rw [if_pos (by have e : (⟨#[]⟩ : ByteArray).size = 0 := rfl; omega)]
      congr 1
      apply ByteArray.ext
      simp
  · rw [if_neg h, if_neg h]

theorem s_fold {n : Int} (h : -9223372036854775808 ≤ n ∧ n ≤ 9223372036854775807) : spec_l01Fold.f n = some (zz n : Int) := by
  unfold spec_l01Fold.f
  rw [zz_cast]
  by_cases hn : n < 0
  · rw [if_pos hn, if_pos hn]
    have e1 : wrap64 (n + 1) = n + 1 := by unfold wrap64; omega
    have e2 : wrap64 (-(n + 1)) = -(n + 1) := by unfold wrap64; omega
    rw [e1, e2, wrap_u64, wrap_u64, wrap_u64]
    congr 1
    omega
  · rw [if_neg hn, if_neg hn, wrap_u64, wrap_u64]
    congr 1
    omega
theorem s_put_l0 : ∀ (f k u : Nat) (out : List Int), u < 128 ^ (f + 1) → u < 18446744073709551616 → f < k → out.length + f ≤ 100 →
    spec_PutNum.l0 k (u : Int) out = some (strOfNums (out ++ vi (f + 1) u)) := by
  intro f
  induction f with
  | zero =>
    intro k u out h1 _ hk hl
    obtain ⟨k, rfl⟩ : ∃ m, k = m + 1 := ⟨k - 1, by omega⟩
    have hu : u < 128 := by simpa using h1
    simp only [spec_PutNum.l0]
    rw [if_neg (by omega), if_pos (by omega)]
    have e : (u : Int) % 256 = (u : Int) := by omega
    rw [e]
    simp only [vi, if_pos hu]
  | succ f ih =>
    intro k u out h1 h2 hk hl
    obtain ⟨k, rfl⟩ : ∃ m, k = m + 1 := ⟨k - 1, by omega⟩
    by_cases hu : u < 128
    · simp only [spec_PutNum.l0]
      rw [if_neg (by omega), if_pos (by omega)]
      have e : (u : Int) % 256 = (u : Int) := by omega
      rw [e, vi, if_pos hu]
    · simp only [spec_PutNum.l0]
      rw [if_pos (by omega), if_pos (by omega)]
      have e1 : IntKind.u64.wrap (Int.tdiv (u : Int) 128) = ((u / 128 : Nat) : Int) := by
        rw [wrap_u64, Int.tdiv_eq_ediv_of_nonneg (by omega)]; omega
      have e2 : IntKind.u64.wrap (Int.tmod (u : Int) 128 + 128) % 256 = ((u % 128 + 128 : Nat) : Int) := by
        rw [wrap_u64, Int.tmod_eq_emod_of_nonneg (by omega)]; omega
      rw [e1, e2, ih k (u / 128) _ (by rw [Nat.pow_succ] at h1; omega) (by omega) (by omega) (by simp; omega)]
      rw [show vi (f + 1 + 1) u = ((u % 128 + 128 : Nat) : Int) :: vi (f + 1) (u / 128) from by rw [vi, if_neg hu]]
      simp
theorem s_putNum {n : Int} (h : -9223372036854775808 ≤ n ∧ n ≤ 9223372036854775807) (k : Nat) (hk : 10 ≤ k) : spec_PutNum.f k n = some (encN n) := by
  unfold spec_PutNum.f
  rw [s_fold h, Option.bind_some]
  have hz := zz_lt h
  rw [s_put_l0 9 k (zz n) [] (by rw [show 9 + 1 = 10 from rfl, pow128]; omega) hz (by omega) (by simp)]
  rfl

theorem s_l03Bytes {k v m ip o s : Int} {st : Bool} (h : routeOk k v m ip o s st = true) (j : Nat) (hj : 11 ≤ j) : spec_l03Bytes.f j k v m ip o s st = some (routeEnc k v m ip o s st) := by
  obtain ⟨j, rfl⟩ : ∃ q, j = q + 1 := ⟨j - 1, by omega⟩
  obtain ⟨hk, hv, hm, hi, ho, hs⟩ := routeOk_bd h
  have z1 := encN_size k; have z2 := encN_size v; have z3 := encN_size m; have z4 := encN_size ip; have z5 := encN_size o; have z6 := encN_size s; have z7 := encN_size 1; have z8 := encN_size 0
  have e : ∀ b : Int, 0 ≤ b → b ≤ 1 → spec_l03Bytes.j0 (j + 1) b k v m ip o s st = some (((((((encN k ++ encN v) ++ encN m) ++ encN ip) ++ encN o) ++ encN s)) ++ encN b) := by
    intro b b0 b1
    have z9 := encN_size b
    simp only [spec_l03Bytes.j0]
    rw [s_putNum (by omega) j (by omega), s_putNum (by omega) j (by omega), s_putNum (by omega) j (by omega), s_putNum (by omega) j (by omega), s_putNum (by omega) j (by omega), s_putNum (by omega) j (by omega), s_putNum (by omega) j (by omega)]
    simp only [Option.bind_some]
    rw [if_pos (by omega), if_pos (by omega), if_pos (by omega), if_pos (by omega), if_pos (by omega), if_pos (by omega)]
  unfold spec_l03Bytes.f routeEnc
  cases st
  · rw [if_neg (by simp), if_neg (by simp)]; exact e 0 (by omega) (by omega)
  · rw [if_pos rfl, if_pos rfl]; exact e 1 (by omega) (by omega)

/-- A loop that fills a row, element by element. -/
theorem to_loop {α β : Type} (l0 : Nat → List α → List β → Int → Option (List β)) (conv : α → β) (z : α)
    (step : ∀ k xs acc i, l0 (k + 1) xs acc i = if i < (xs.length : Int) then (if 0 ≤ i then (if i < (acc.length : Int) then l0 k xs (acc.set i.toNat (conv (xs.getD i.toNat z))) (wrap64 (i + 1)) else none) else none) else some acc) :
    ∀ (d k i : Nat) (xs : List α) (acc : List β), xs.length = i + d → acc.length = xs.length → d < k → xs.length ≤ 4611686018427387904 → l0 k xs acc (i : Int) = some (acc.take i ++ (xs.drop i).map conv) := by
  intro d
  induction d with
  | zero =>
    intro k i xs acc h1 h2 hk _
    obtain ⟨k, rfl⟩ : ∃ m, k = m + 1 := ⟨k - 1, by omega⟩
    rw [step, if_neg (by omega), List.take_of_length_le (by omega), List.drop_eq_nil_of_le (by omega)]
    simp
  | succ d ih =>
    intro k i xs acc h1 h2 hk hm
    obtain ⟨k, rfl⟩ : ∃ m, k = m + 1 := ⟨k - 1, by omega⟩
    rw [step, if_pos (by omega), if_pos (by omega), if_pos (by omega)]
    have w : wrap64 ((i : Int) + 1) = ((i + 1 : Nat) : Int) := wrap64_id (by omega) (by omega)
    rw [w, ih k (i + 1) xs _ (by omega) (by simpa using h2) (by omega) hm]
    congr 1
    have hi : i < xs.length := by omega
    rw [Int.toNat_natCast, List.getD_eq_getElem?_getD, List.getElem?_eq_getElem hi, Option.getD_some]
    rw [List.drop_eq_getElem_cons hi, List.map_cons]
    have e : (acc.set i (conv xs[i])).take (i + 1) = acc.take i ++ [conv xs[i]] := by
      rw [List.take_set, List.take_succ_eq_append_getElem (by omega), List.set_append_right _ _ (by simp; omega)]
      simp [List.length_take, Nat.min_eq_left (by omega : i ≤ acc.length)]
    rw [e, List.append_assoc]; rfl
/-- The same from the start, over a row of zeros. -/
theorem to_all {α β : Type} (l0 : Nat → List α → List β → Int → Option (List β)) (conv : α → β) (z : α) (zb : β)
    (step : ∀ k xs acc i, l0 (k + 1) xs acc i = if i < (xs.length : Int) then (if 0 ≤ i then (if i < (acc.length : Int) then l0 k xs (acc.set i.toNat (conv (xs.getD i.toNat z))) (wrap64 (i + 1)) else none) else none) else some acc)
    (k : Nat) (xs : List α) (hk : xs.length < k) (hm : xs.length ≤ 4611686018427387904) : l0 k xs (List.replicate ((xs.length : Int)).toNat zb) 0 = some (xs.map conv) := by
  have h := to_loop l0 conv z step xs.length k 0 xs (List.replicate xs.length zb) (by omega) (by simp) hk hm
  simpa using h
/-- A loop that holds a row against itself. -/
theorem eq_loop {α : Type} (l0 : Nat → List α → List α → Int → Option Bool) (eq : α → α → Option Bool) (z : α) (hr : ∀ a, eq a a = some true)
    (step : ∀ k xs ys i, l0 (k + 1) xs ys i = if i < (xs.length : Int) then (if 0 ≤ i then (if i < (ys.length : Int) then ((eq (xs.getD i.toNat z) (ys.getD i.toNat z)).bind fun t => if t = true then l0 k xs ys (wrap64 (i + 1)) else some false) else none) else none) else some true) :
    ∀ (d k i : Nat) (xs : List α), xs.length = i + d → d < k → xs.length ≤ 4611686018427387904 → l0 k xs xs (i : Int) = some true := by
  intro d
  induction d with
  | zero =>
    intro k i xs h1 hk _
    obtain ⟨k, rfl⟩ : ∃ m, k = m + 1 := ⟨k - 1, by omega⟩
    rw [step, if_neg (by omega)]
  | succ d ih =>
    intro k i xs h1 hk hm
    obtain ⟨k, rfl⟩ : ∃ m, k = m + 1 := ⟨k - 1, by omega⟩
    rw [step, if_pos (by omega), if_pos (by omega), if_pos (by omega), hr, Option.bind_some, if_pos rfl]
    have w : wrap64 ((i : Int) + 1) = ((i + 1 : Nat) : Int) := wrap64_id (by omega) (by omega)
    rw [w, ih k (i + 1) xs (by omega) (by omega) hm]
theorem eq_all {α : Type} (l0 : Nat → List α → List α → Int → Option Bool) (eq : α → α → Option Bool) (z : α) (hr : ∀ a, eq a a = some true)
    (step : ∀ k xs ys i, l0 (k + 1) xs ys i = if i < (xs.length : Int) then (if 0 ≤ i then (if i < (ys.length : Int) then ((eq (xs.getD i.toNat z) (ys.getD i.toNat z)).bind fun t => if t = true then l0 k xs ys (wrap64 (i + 1)) else some false) else none) else none) else some true)
    (k : Nat) (xs : List α) (hk : xs.length < k) (hm : xs.length ≤ 4611686018427387904) : l0 k xs xs 0 = some true := by
  have h := eq_loop l0 eq z hr step xs.length k 0 xs (by omega) hk hm
  simpa using h
theorem getD_at {α : Type} {xs : List α} {i : Nat} (z : α) (h : i < xs.length) : xs.getD ((i : Int)).toNat z = xs[i] := by
  rw [Int.toNat_natCast, List.getD_eq_getElem?_getD, List.getElem?_eq_getElem h, Option.getD_some]

def convRt (x : S64) : S23 := ⟨x.f0, x.f1, x.f2, x.f3, x.f4, x.f5, x.f6⟩
theorem toRouteS_ok (k : Nat) (l : List S64) (hk : l.length < k) (hl : l.length ≤ 1048576) : laws_toRouteS.f k l = some (l.map convRt) := by
  unfold laws_toRouteS.f
  rw [if_pos (by omega), if_pos (by omega)]
  exact to_all laws_toRouteS.l0 convRt z64 z23 (fun k xs acc i => by simp only [laws_toRouteS.l0, laws_toRoute.f, Option.bind_some]; rfl) k l hk (by omega)
theorem eqRoute_refl (a0 a1 a2 a3 a4 a5 : Int) (a6 : Bool) : laws_eqRoute.f a0 a1 a2 a3 a4 a5 a6 a0 a1 a2 a3 a4 a5 a6 = some true := by simp [laws_eqRoute.f]
theorem eqRouteS_refl (k : Nat) (l : List S23) (hk : l.length < k) (hl : l.length ≤ 1048576) : laws_eqRouteS.f k l l = some true := by
  unfold laws_eqRouteS.f
  rw [if_pos rfl]
  exact eq_all laws_eqRouteS.l0 (fun a b => laws_eqRoute.f a.f0 a.f1 a.f2 a.f3 a.f4 a.f5 a.f6 b.f0 b.f1 b.f2 b.f3 b.f4 b.f5 b.f6) z23 (fun a => eqRoute_refl ..) (fun k xs ys i => by simp only [laws_eqRouteS.l0]; rfl) k l hk (by omega)
theorem szRouteS_ok (l : List S64) (hl : l.length ≤ 9223372036854775807) : laws_szRouteS.f l 1048576 = some (if l.length ≤ 1048576 then 1048576 - (l.length : Int) else -1) := by
  unfold laws_szRouteS.f
  have w : wrap64 (1048576 - (l.length : Int)) = 1048576 - (l.length : Int) := wrap64_id (by omega) (by omega)
  rw [w]
  by_cases h : l.length ≤ 1048576
  · rw [if_neg (by omega), if_pos h]
  · rw [if_pos (by omega), if_neg h]

def rtOk (r : S23) : Bool := routeOk r.f0 r.f1 r.f2 r.f3 r.f4 r.f5 r.f6
def rtNote (r : S23) : ByteArray := encN 1 ++ routeEnc r.f0 r.f1 r.f2 r.f3 r.f4 r.f5 r.f6
def dumpL (xs : List S23) : List ByteArray := xs.map rtNote ++ [encN 3]
def dumpOf (xs : List S23) : List ByteArray := if (xs.length : Int) > 60 then [] else if xs.all rtOk then dumpL xs else []
theorem s_l04put {r : S23} (h : rtOk r = true) (k : Nat) (hk : 11 ≤ k) : spec_l04Bytes.f k 1 r.f0 r.f1 r.f2 r.f3 r.f4 r.f5 r.f6 = some (rtNote r) := by
  unfold spec_l04Bytes.f
  have z1 := encN_size 1; have z2 := routeEnc_size r.f0 r.f1 r.f2 r.f3 r.f4 r.f5 r.f6
  rw [if_neg (by omega), s_putNum (by omega) k (by omega), s_l03Bytes h k hk]
  simp only [Option.bind_some]
  rw [if_pos (by omega)]; rfl
theorem s_l04end (k : Nat) (hk : 11 ≤ k) : spec_l04Bytes.f k 3 0 0 0 0 0 0 false = some (encN 3) := by
  unfold spec_l04Bytes.f
  rw [if_pos rfl, s_putNum (by omega) k (by omega)]; rfl
theorem i_put {r : S23} (h : rtOk r = true) (k : Nat) (hk : 11 ≤ k) : impl_NoteBytes.f k 1 r.f0 r.f1 r.f2 r.f3 r.f4 r.f5 r.f6 = some (rtNote r) := by
  rw [i_noteBytes _ _ _ _ _ _ _ _ k hk]
  unfold noteBytes noteOk noteEnc
  rw [if_pos rfl, if_pos (show routeOk r.f0 r.f1 r.f2 r.f3 r.f4 r.f5 r.f6 = true from h), if_neg (by omega)]; rfl
theorem i_end (k : Nat) (hk : 11 ≤ k) : impl_NoteBytes.f k 3 0 0 0 0 0 0 false = some (encN 3) := by
  rw [i_noteBytes _ _ _ _ _ _ _ _ k hk]; rfl
theorem s_dump_l0 (xs : List S23) (hv : xs.all rtOk = true) (hx : xs.length ≤ 60) : ∀ (d k i : Nat) (acc : List ByteArray), xs.length = i + d → d + 11 < k → acc.length = i → spec_l04Dump.l0 k xs acc (i : Int) = some (acc ++ dumpL (xs.drop i)) := by
  intro d
  induction d with
  | zero =>
    intro k i acc h1 hk hl
    obtain ⟨k, rfl⟩ : ∃ q, k = q + 1 := ⟨k - 1, by omega⟩
    rw [spec_l04Dump.l0, if_neg (by omega), s_l04end k (by omega), Option.bind_some, if_pos (by omega), List.drop_eq_nil_of_le (by omega)]; rfl
  | succ d ih =>
    intro k i acc h1 hk hl
    obtain ⟨k, rfl⟩ : ∃ q, k = q + 1 := ⟨k - 1, by omega⟩
    have w : wrap64 ((i : Int) + 1) = ((i + 1 : Nat) : Int) := wrap64_id (by omega) (by omega)
    have hi : i < xs.length := by omega
    have hrd : rd_T23 xs (i : Int) = xs[i] := getD_at _ hi
    have hr : rtOk xs[i] = true := List.all_eq_true.1 hv _ (List.getElem_mem hi)
    rw [spec_l04Dump.l0, if_pos (by omega), if_pos (by omega), hrd, s_l04put hr k (by omega), Option.bind_some, if_pos (by omega), w, ih k (i + 1) _ (by omega) (by omega) (by simp; omega), List.drop_eq_getElem_cons hi]
    unfold dumpL
    simp only [List.map_cons, List.append_assoc, List.cons_append, List.nil_append]
theorem s_dumpv_l0 (xs : List S23) (hx : xs.length ≤ 60) : ∀ (d k i : Nat), xs.length = i + d → d + xs.length + 13 < k → (xs.take i).all rtOk = true → spec_DumpOf.l0 k xs (i : Int) = some (if xs.all rtOk then dumpL xs else []) := by
  intro d
  induction d with
  | zero =>
    intro k i h1 hk hv
    obtain ⟨k, rfl⟩ : ∃ q, k = q + 1 := ⟨k - 1, by omega⟩
    rw [List.take_of_length_le (by omega)] at hv
    rw [spec_DumpOf.l0, if_neg (by omega)]
    unfold spec_l04Dump.f
    have e := s_dump_l0 xs hv hx xs.length k 0 [] (by omega) (by omega) rfl
    rw [show ((0 : Nat) : Int) = 0 from rfl] at e
    rw [e, Option.bind_some, if_pos hv]; rfl
  | succ d ih =>
    intro k i h1 hk hv
    obtain ⟨k, rfl⟩ : ∃ q, k = q + 2 := ⟨k - 2, by omega⟩
    have w : wrap64 ((i : Int) + 1) = ((i + 1 : Nat) : Int) := wrap64_id (by omega) (by omega)
    have hi : i < xs.length := by omega
    have hrd : rd_T23 xs (i : Int) = xs[i] := getD_at _ hi
    rw [spec_DumpOf.l0, if_pos (by omega), if_pos (by omega), hrd, s_routeRight, Option.bind_some, w]
    rw [show routeOk xs[i].f0 xs[i].f1 xs[i].f2 xs[i].f3 xs[i].f4 xs[i].f5 xs[i].f6 = rtOk xs[i] from rfl]
    by_cases hr : rtOk xs[i] = true
    · rw [if_pos hr, ih (k + 1) (i + 1) (by omega) (by omega) (by rw [List.take_succ_eq_append_getElem hi, List.all_append, hv]; simp [hr])]
    · rw [if_neg hr, if_neg (fun hh => hr (List.all_eq_true.1 hh _ (List.getElem_mem hi)))]
theorem s_dumpOf (k : Nat) (xs : List S23) (hk : 150 ≤ k) : spec_DumpOf.f k xs = some (dumpOf xs) := by
  unfold spec_DumpOf.f dumpOf
  by_cases h : (xs.length : Int) > 60
  · rw [if_pos h, if_pos h]
  · rw [if_neg h, if_neg h]
    exact s_dumpv_l0 xs (by omega) xs.length k 0 (by omega) (by omega) (by simp)
theorem i_dump_l0 (xs : List S23) (hx : xs.length ≤ 60) : ∀ (d k i : Nat) (acc : List ByteArray), xs.length = i + d → d + 12 < k → acc.length = i → impl_DumpOf.l0 k acc xs (xs.length : Int) (i : Int) = some (if (xs.drop i).all rtOk then acc ++ dumpL (xs.drop i) else []) := by
  intro d
  induction d with
  | zero =>
    intro k i acc h1 hk hl
    obtain ⟨k, rfl⟩ : ∃ q, k = q + 1 := ⟨k - 1, by omega⟩
    rw [impl_DumpOf.l0, if_neg (by omega), i_end k (by omega), Option.bind_some, if_pos (by omega), List.drop_eq_nil_of_le (by omega)]; rfl
  | succ d ih =>
    intro k i acc h1 hk hl
    obtain ⟨k, rfl⟩ : ∃ q, k = q + 2 := ⟨k - 2, by omega⟩
    have w : wrap64 ((i : Int) + 1) = ((i + 1 : Nat) : Int) := wrap64_id (by omega) (by omega)
    have hi : i < xs.length := by omega
    have hrd : rd_T23 xs (i : Int) = xs[i] := getD_at _ hi
    rw [impl_DumpOf.l0, if_pos (by omega), if_pos (by omega), if_pos (by omega), hrd, i_routeRight, Option.bind_some, List.drop_eq_getElem_cons hi]
    rw [show routeOk xs[i].f0 xs[i].f1 xs[i].f2 xs[i].f3 xs[i].f4 xs[i].f5 xs[i].f6 = rtOk xs[i] from rfl]
    by_cases hr : rtOk xs[i] = true
    · rw [if_pos hr, i_put hr (k + 1) (by omega), Option.bind_some, if_pos (by omega), w, ih (k + 1) (i + 1) _ (by omega) (by omega) (by simp; omega)]
      rw [List.all_cons, hr, Bool.true_and]
      split
      · unfold dumpL
        simp only [List.map_cons, List.append_assoc, List.cons_append, List.nil_append]
      · rfl
    · rw [if_neg hr, List.all_cons, Bool.eq_false_iff.2 hr]; simp
theorem i_dumpOf (k : Nat) (xs : List S23) (hk : 150 ≤ k) : impl_DumpOf.f k xs = some (dumpOf xs) := by
  unfold impl_DumpOf.f dumpOf
  by_cases h : (xs.length : Int) > 60
  · rw [if_pos h, if_pos h]
  · rw [if_neg h, if_neg h]
    have e := i_dump_l0 xs (by omega) xs.length k 0 [] (by omega) (by omega) rfl
    rw [List.drop_zero] at e
    exact e
theorem dumpOf_len (xs : List S23) : (dumpOf xs).length ≤ 61 := by
  unfold dumpOf dumpL
  split
  · simp
  · split
    · simp; omega
    · simp

theorem mark_l0 : ∀ (f k : Nat) (n : Int) (t : ByteArray), 0 ≤ n → n < 10 ^ f → f < k → t.size + f ≤ 1000 → ∃ r, laws_markText.l0 k n t = some r := by
  intro f
  induction f with
  | zero =>
    intro k n t h0 h1 hk ht
    obtain ⟨k, rfl⟩ : ∃ m, k = m + 1 := ⟨k - 1, by omega⟩
    rw [laws_markText.l0, if_neg (by simp at h1; omega), if_pos (by omega)]
    exact ⟨_, rfl⟩
  | succ f ih =>
    intro k n t h0 h1 hk ht
    obtain ⟨k, rfl⟩ : ∃ m, k = m + 1 := ⟨k - 1, by omega⟩
    rw [laws_markText.l0]
    by_cases h : n > 0
    · rw [if_pos h]
      simp only [Option.bind_some]
      have hs : ∀ x : Int, (strOfNums [x]).size = 1 := fun x => by simp [strOfNums, ByteArray.size]
      rw [hs, if_pos (by omega)]
      have e : Int.tdiv n 10 = n / 10 := Int.tdiv_eq_ediv_of_nonneg h0
      have hp : n / 10 < 10 ^ f := by
        rw [Int.pow_succ] at h1
        generalize (10 : Int) ^ f = p at *
        omega
      have hb : wrap64 (n / 10) = n / 10 ∨ n / 10 > 9223372036854775807 := by
        by_cases hq : n / 10 ≤ 9223372036854775807
        · exact .inl (wrap64_id (by omega) hq)
        · exact .inr (by omega)
      rw [e]
      have hw : 0 ≤ wrap64 (n / 10) ∧ wrap64 (n / 10) < 10 ^ f ∨ wrap64 (n / 10) ≤ 0 := by
        rcases hb with hb | hb
        · rw [hb]; exact .inl ⟨by omega, hp⟩
        · rcases Int.lt_or_le 0 (wrap64 (n / 10)) with h2 | h2
          · refine .inl ⟨by omega, ?_⟩
            have : wrap64 (n / 10) ≤ 9223372036854775807 := by unfold wrap64; omega
            omega
          · exact .inr h2
      rcases hw with ⟨g0, g1⟩ | g
      · exact ih k _ _ g0 g1 (by omega) (by rw [ByteArray.size_append, hs]; omega)
      · obtain ⟨k, rfl⟩ : ∃ m, k = m + 1 := ⟨k - 1, by omega⟩
        rw [laws_markText.l0, if_neg (by omega), if_pos (by rw [ByteArray.size_append, hs]; omega)]
        exact ⟨_, rfl⟩
    · rw [if_neg h, if_pos (by omega)]
      exact ⟨_, rfl⟩
def mt (n : Int) : ByteArray := (laws_markText.f 20 n).getD ⟨#[]⟩
theorem mt_ok (n : Int) (h0 : 0 ≤ n) (h1 : n < 1000000000000000000) (k : Nat) (hk : 20 ≤ k) : laws_markText.f k n = some (mt n) := by
  have hex : ∃ r, laws_markText.f 20 n = some r := by
    unfold laws_markText.f
    by_cases h : n ≤ 0
    · rw [if_pos h]; exact ⟨_, rfl⟩
    · rw [if_neg h]
      exact mark_l0 18 20 n _ h0 (by have e : (10 : Int) ^ 18 = 1000000000000000000 := by decide
                                     rw [e]; exact h1) (by omega) (by decide)
  obtain ⟨r, hr⟩ := hex
  have e : mt n = r := by unfold mt; rw [hr]; rfl
  rw [e]
  exact at_rounds (laws_markText.mono n) hk hr

def mts (m : Int) (d : Nat) : List ByteArray := (List.range d).map (fun (j : Nat) => mt (m + (j : Int)))
theorem mts_succ (m : Int) (d : Nat) : mts m (d + 1) = mt m :: mts (m + 1) d := by
  unfold mts
  rw [List.range_succ_eq_map, List.map_cons, List.map_map]
  congr 1
  · simp
  · apply List.map_congr_left
    intro j _
    simp only [Function.comp_apply]
    congr 1
    omega
theorem markS_l0 : ∀ (d k i : Nat) (m : Int) (xs : List ByteArray), xs.length = i + d → d + 20 < k → 0 ≤ m → m + d ≤ 1000000000 → xs.length ≤ 100000000 → laws_markStringS.l0 k xs m (i : Int) = some (m + d, xs.take i ++ mts m d) := by
  intro d
  induction d with
  | zero =>
    intro k i m xs h1 hk h0 hm _
    obtain ⟨k, rfl⟩ : ∃ q, k = q + 1 := ⟨k - 1, by omega⟩
    rw [laws_markStringS.l0, if_neg (by omega), List.take_of_length_le (by omega)]
    simp [mts]
  | succ d ih =>
    intro k i m xs h1 hk h0 hm hx
    obtain ⟨k, rfl⟩ : ∃ q, k = q + 1 := ⟨k - 1, by omega⟩
    have w : wrap64 ((i : Int) + 1) = ((i + 1 : Nat) : Int) := wrap64_id (by omega) (by omega)
    have w2 : wrap64 (m + 1) = m + 1 := wrap64_id (by omega) (by omega)
    rw [laws_markStringS.l0, if_pos (by omega), mt_ok m h0 (by omega) k (by omega), Option.bind_some, if_pos (by omega), w, w2]
    rw [ih k (i + 1) (m + 1) _ (by simp; omega) (by omega) (by omega) (by omega) (by simpa using hx), mts_succ]
    have e : (xs.set ((i : Int)).toNat (mt m)).take (i + 1) = xs.take i ++ [mt m] := by
      rw [Int.toNat_natCast, List.take_set, List.take_succ_eq_append_getElem (by omega), List.set_append_right _ _ (by simp; omega)]
      simp [List.length_take, Nat.min_eq_left (by omega : i ≤ xs.length)]
    rw [e]
    simp only [Option.some.injEq, Prod.mk.injEq, List.append_assoc, List.cons_append, List.nil_append, and_true]
    omega
theorem heldS_l0 : ∀ (d k i : Nat) (m : Int) (ys : List ByteArray) , d + 20 < k → 0 ≤ m → m + d ≤ 1000000000 → ys.length = i → i + d ≤ 100000000 → laws_heldStringS.l0 k (ys ++ mts m d) m (i : Int) = some (m + d) := by
  intro d
  induction d with
  | zero =>
    intro k i m ys hk h0 hm hl _
    obtain ⟨k, rfl⟩ : ∃ q, k = q + 1 := ⟨k - 1, by omega⟩
    rw [laws_heldStringS.l0, if_neg (by simp [mts]; omega)]
    simp
  | succ d ih =>
    intro k i m ys hk h0 hm hl hx
    obtain ⟨k, rfl⟩ : ∃ q, k = q + 1 := ⟨k - 1, by omega⟩
    have w : wrap64 ((i : Int) + 1) = ((i + 1 : Nat) : Int) := wrap64_id (by omega) (by omega)
    have w2 : wrap64 (m + 1) = m + 1 := wrap64_id (by omega) (by omega)
    rw [laws_heldStringS.l0, if_pos (by simp [mts]; omega), if_pos (by omega), mt_ok m h0 (by omega) k (by omega), Option.bind_some, w, w2, mts_succ]
    have e : rdOf ByteArray.empty (ys ++ mt m :: mts (m + 1) d) (i : Int) = mt m := by
      unfold rdOf
      rw [getD_at _ (by simp; omega)]
      simp [← hl]
    rw [if_pos (by rw [e])]
    have e2 : ys ++ mt m :: mts (m + 1) d = (ys ++ [mt m]) ++ mts (m + 1) d := by simp
    rw [e2, ih k (i + 1) (m + 1) (ys ++ [mt m]) (by omega) (by omega) (by omega) (by simp; omega) (by omega)]
    congr 1
    omega
theorem markS_ok (k : Nat) (xs : List ByteArray) (hk : xs.length + 20 < k) (hm : xs.length ≤ 10000000) : laws_markStringS.f k xs 1 = some (1 + (xs.length : Int), mts 1 xs.length) := by
  unfold laws_markStringS.f
  have h := markS_l0 xs.length k 0 1 xs (by omega) hk (by omega) (by omega) (by omega)
  simpa using h
theorem heldS_ok (k n : Nat) (hk : n + 20 < k) (hm : n ≤ 10000000) : laws_heldStringS.f k (mts 1 n) 1 = some (1 + (n : Int)) := by
  unfold laws_heldStringS.f
  have h := heldS_l0 n k 0 1 [] hk (by omega) (by omega) rfl (by omega)
  simpa using h
theorem eqS_refl (k : Nat) (xs : List ByteArray) (hk : xs.length < k) (hm : xs.length ≤ 10000000) : laws_eqStringS.f k xs xs = some true := by
  unfold laws_eqStringS.f
  rw [if_pos rfl]
  refine eq_all laws_eqStringS.l0 (fun a b => if a.toList = b.toList then some true else some false) ByteArray.empty (fun a => by simp) (fun k xs ys i => ?_) k xs hk (by omega)
  rw [laws_eqStringS.l0]
  show _ = if i < (xs.length : Int) then (if 0 ≤ i then (if i < (ys.length : Int) then ((if (rdOf ByteArray.empty xs i).toList = (rdOf ByteArray.empty ys i).toList then some true else some false).bind fun t => if t = true then laws_eqStringS.l0 k xs ys (wrap64 (i + 1)) else some false) else none) else none) else some true
  by_cases hc : (rdOf ByteArray.empty xs i).toList = (rdOf ByteArray.empty ys i).toList
  · rw [if_pos hc, if_pos hc]; rfl
  · rw [if_neg hc, if_neg hc]; rfl

theorem ex_bind {α β : Type} {P : Option β → Prop} (a : α) (f : α → Option β) (h : ∀ y, y = a → P (f y)) : P ((some a).bind f) := h a rfl
theorem markR_l0 : ∀ (d k i : Nat) (m : Int) (xs : List S23), xs.length = i + d → d < k → 0 ≤ m → m + 10 * d ≤ 1000000000 → xs.length ≤ 10000000 → ∃ m' ys, laws_markRouteS.l0 k xs m (i : Int) = some (m', ys) ∧ 0 ≤ m' := by
  intro d
  induction d with
  | zero =>
    intro k i m xs h1 hk h0 hm _
    obtain ⟨k, rfl⟩ : ∃ q, k = q + 1 := ⟨k - 1, by omega⟩
    rw [laws_markRouteS.l0, if_neg (by omega)]
    exact ⟨m, xs, rfl, h0⟩
  | succ d ih =>
    intro k i m xs h1 hk h0 hm hx
    obtain ⟨k, rfl⟩ : ∃ q, k = q + 1 := ⟨k - 1, by omega⟩
    have w : wrap64 ((i : Int) + 1) = ((i + 1 : Nat) : Int) := wrap64_id (by omega) (by omega)
    have w1 : wrap64 (m + 1) = m + 1 := wrap64_id (by omega) (by omega)
    have w2 : wrap64 (m + 1 + 1) = m + 1 + 1 := wrap64_id (by omega) (by omega)
    have w3 : wrap64 (m + 1 + 1 + 1) = m + 1 + 1 + 1 := wrap64_id (by omega) (by omega)
    have w4 : wrap64 (m + 1 + 1 + 1 + 1) = m + 1 + 1 + 1 + 1 := wrap64_id (by omega) (by omega)
    have w5 : wrap64 (m + 1 + 1 + 1 + 1 + 1) = m + 1 + 1 + 1 + 1 + 1 := wrap64_id (by omega) (by omega)
    have w6 : wrap64 (m + 1 + 1 + 1 + 1 + 1 + 1) = m + 1 + 1 + 1 + 1 + 1 + 1 := wrap64_id (by omega) (by omega)
    have w7 : wrap64 (m + 1 + 1 + 1 + 1 + 1 + 1 + 1) = m + 1 + 1 + 1 + 1 + 1 + 1 + 1 := wrap64_id (by omega) (by omega)
    rw [laws_markRouteS.l0, if_pos (by omega), if_pos (by omega)]
    refine ex_bind (P := fun o => ∃ m' ys, o = some (m', ys) ∧ 0 ≤ m') _ _ (fun y1 h11 => ?_)
    have l1 : y1.length = xs.length := by rw [h11, List.length_set]
    clear h11
    refine ex_bind (P := fun o => ∃ m' ys, o = some (m', ys) ∧ 0 ≤ m') _ _ (fun y2 h12 => ?_)
    have l2 : y2.length = xs.length := by rw [h12, List.length_set]; exact l1
    clear h12
    refine ex_bind (P := fun o => ∃ m' ys, o = some (m', ys) ∧ 0 ≤ m') _ _ (fun y3 h13 => ?_)
    have l3 : y3.length = xs.length := by rw [h13, List.length_set]; exact l2
    clear h13
    refine ex_bind (P := fun o => ∃ m' ys, o = some (m', ys) ∧ 0 ≤ m') _ _ (fun y4 h14 => ?_)
    have l4 : y4.length = xs.length := by rw [h14, List.length_set]; exact l3
    clear h14
    refine ex_bind (P := fun o => ∃ m' ys, o = some (m', ys) ∧ 0 ≤ m') _ _ (fun y5 h15 => ?_)
    have l5 : y5.length = xs.length := by rw [h15, List.length_set]; exact l4
    clear h15
    refine ex_bind (P := fun o => ∃ m' ys, o = some (m', ys) ∧ 0 ≤ m') _ _ (fun y6 h16 => ?_)
    have l6 : y6.length = xs.length := by rw [h16, List.length_set]; exact l5
    clear h16
    rw [w, w1, w2, w3, w4, w5, w6, w7]
    exact ih k (i + 1) _ _ (by rw [List.length_set]; omega) (by omega) (by omega) (by omega) (by rw [List.length_set]; omega)
theorem markR_ok (k : Nat) (xs : List S23) (hk : xs.length < k) (hx : xs.length ≤ 10000000) : ∃ m' ys, laws_markRouteS.f k xs 1 = some (m', ys) ∧ 0 ≤ m' := by
  unfold laws_markRouteS.f
  exact markR_l0 xs.length k 0 1 xs (by omega) hk (by omega) (by omega) hx

theorem FnExactDumpOf : laws_FnExactDumpOf.Pure := by
  intro l ⟨hl, _⟩
  refine ⟨l.length + 200, ?_⟩
  unfold laws_FnExactDumpOf.f
  rw [szRouteS_ok l hl, Option.bind_some]
  by_cases h : l.length ≤ 1048576
  · have hm : (l.map convRt).length = l.length := List.length_map _
    have hd := dumpOf_len (l.map convRt)
    obtain ⟨m', ys, hmr, hm0⟩ := markR_ok (l.length + 200) (l.map convRt) (by omega) (by omega)
    rw [if_pos h, if_neg (by omega), toRouteS_ok _ l (by omega) h]
    simp only [Option.bind_some]
    rw [s_dumpOf _ _ (by omega), i_dumpOf _ _ (by omega)]
    simp only [Option.bind_some]
    rw [eqS_refl _ _ (by omega) (by omega), eqRouteS_refl _ _ (by omega) (by omega), hmr]
    simp only [Option.bind_some, if_true]
    rw [if_neg (by omega)]
    show laws_FnExactDumpOf.j0 (l.length + 199 + 1) l (dumpOf (l.map convRt)) (dumpOf (l.map convRt)) false = some true
    rw [laws_FnExactDumpOf.j0, if_neg (by simp), markS_ok _ _ (by omega) (by omega)]
    simp only [Option.bind_some]
    rw [heldS_ok _ _ (by omega) (by omega)]
    simp only [Option.bind_some]
    rw [if_neg (by omega), toRouteS_ok _ l (by omega) h]
    simp only [Option.bind_some]
    rw [i_dumpOf _ _ (by omega)]
    simp only [Option.bind_some]
    rw [eqS_refl _ _ (by omega) (by omega)]
    simp only [Option.bind_some, if_true]
    rw [if_neg (by omega)]
  · rw [if_neg h, if_pos (by omega)]

end Go.Proofs.Ytkpbfnbdknlghaa.Pure
