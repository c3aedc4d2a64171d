/- The plain law of FnExactLongest: for all arguments that fit the guards its printed function answers true. -/
import Derived.Test.YtkbhdiambabnnaaPFnExactLongestx
set_option linter.unusedVariables false
set_option linter.unusedSimpArgs false
namespace Go.Proofs.Ytkbhdiambabnnaa.Pure
open Go.RowKit Go.Proofs.Ytkbhdiambabnnaa.PFnExactLongest Go.Proofs.YtkbhdiambabnnaaW.PrintWords Go.Proofs.YtkbhdiambabnnaaW.PrintLast Go.Proofs.YtkbhdiambabnnaaW.PrintMore

theorem s_is (a b c : Int) : spec_l02Is.f a b c = some (decide (b ≤ a ∧ a ≤ c)) := by
  unfold spec_l02Is.f; by_cases h : a ≥ b
  · rw [if_pos h]; by_cases h2 : a ≤ c <;> simp [h, h2]
  · rw [if_neg h]; congr 1; symm; apply decide_eq_false; omega

theorem i_in (a b c : Int) : impl_in.f a b c = some (decide (b ≤ a ∧ a ≤ c)) := by
  unfold impl_in.f; by_cases h : b ≤ a
  · rw [if_pos h]; by_cases h2 : a ≤ c <;> simp [h, h2]
  · rw [if_neg h]; congr 1; symm; apply decide_eq_false; omega


theorem wrap_sub {b : Int} (h0 : 0 ≤ b) (h1 : b ≤ 32) : wrap64 (32 - b) = 32 - b := by unfold wrap64; omega
theorem shl_pos {j : Int} (h0 : 0 ≤ j) (h1 : j ≤ 32) : shl .i64 1 j = 2 ^ j.toNat := by
  obtain ⟨n, rfl⟩ := Int.eq_ofNat_of_zero_le h0
  have hn : n ≤ 32 := by omega
  unfold shl
  have e1 : min ((n : Int)).toNat IntKind.i64.bits = n := by
    have : IntKind.i64.bits = 64 := rfl
    rw [this, Int.toNat_natCast]; omega
  rw [e1, Int.toNat_natCast, Int.one_mul]
  have hp : (2 : Int) ^ n ≤ 2 ^ 32 := by
    have := Nat.pow_le_pow_right (n := 2) (by decide) hn
    exact_mod_cast this
  have hq : (0 : Int) < 2 ^ n := by exact_mod_cast Nat.two_pow_pos n
  have h32 : (2 : Int) ^ 32 = 4294967296 := by decide
  rw [IntKind.wrap_i64]
  omega
theorem s_size {b : Int} (h0 : 0 ≤ b) (h1 : b ≤ 32) : spec_l16Size.f b = some (2 ^ (32 - b).toNat) := by
  unfold spec_l16Size.f
  rw [wrap_sub h0 h1, if_pos (by omega), shl_pos (by omega) (by omega)]
theorem i_size {a b c : Int} (h0 : 0 ≤ b) (h1 : b ≤ 32) : impl_Range_size.f a b c = some (2 ^ (32 - b).toNat) := by
  unfold impl_Range_size.f
  rw [wrap_sub h0 h1, if_pos (by omega), shl_pos (by omega) (by omega)]
theorem pow_ne (n : Nat) : ¬ (2 : Int) ^ n = 0 := by
  have hq : (0 : Int) < 2 ^ n := by exact_mod_cast Nat.two_pow_pos n
  omega
def rangeOk (a b c : Int) : Bool := decide (0 ≤ a ∧ a ≤ 4294967295) && decide (0 ≤ b ∧ b ≤ 32) && decide (Int.tmod a (2 ^ (32 - b).toNat) = 0) && decide (1 ≤ c ∧ c ≤ 4)
theorem s_rangeRight (a b c : Int) : spec_RangeRight.f a b c = some (rangeOk a b c) := by
  unfold spec_RangeRight.f spec_l02Ip.f spec_l09House.f rangeOk
  simp only [s_is, Option.bind_some]
  by_cases h1 : 0 ≤ a ∧ a ≤ 4294967295
  · by_cases h2 : 0 ≤ b ∧ b ≤ 32
    · rw [s_size h2.1 h2.2]
      by_cases h3 : Int.tmod a (2 ^ (32 - b).toNat) = 0 <;> simp [h1, h2, h3, pow_ne]
    · simp [h1, h2]
  · simp [h1]
theorem i_rangeRight (a b c : Int) : impl_RangeRight.f a b c = some (rangeOk a b c) := by
  unfold impl_RangeRight.f impl_isIp.f impl_isHouse.f rangeOk
  simp only [i_in, Option.bind_some]
  by_cases h1 : 0 ≤ a ∧ a ≤ 4294967295
  · by_cases h2 : 0 ≤ b ∧ b ≤ 32
    · rw [i_size h2.1 h2.2]
      by_cases h3 : Int.tmod a (2 ^ (32 - b).toNat) = 0 <;> simp [h1, h2, h3, pow_ne]
    · simp [h1, h2]
  · simp [h1]
theorem rangeOk_of {a b c : Int} (h : rangeOk a b c = true) : (0 ≤ a ∧ a ≤ 4294967295) ∧ (0 ≤ b ∧ b ≤ 32) := by
  unfold rangeOk at h
  simp only [Bool.and_eq_true, decide_eq_true_eq] at h
  exact ⟨h.1.1.1, h.1.1.2⟩

theorem bits_xor_nat (k : IntKind) (a b : Nat) : Go.bits .xor k a b = k.wrap (((a % 2 ^ k.bits) ^^^ (b % 2 ^ k.bits) : Nat) : Int) := by
  simp only [Go.bits, BitVec.ofInt_natCast, BitVec.toNat_xor, BitVec.toNat_ofNat]
theorem bits_or_nat (k : IntKind) (a b : Nat) : Go.bits .or k a b = k.wrap (((a % 2 ^ k.bits) ||| (b % 2 ^ k.bits) : Nat) : Int) := by
  simp only [Go.bits, BitVec.ofInt_natCast, BitVec.toNat_or, BitVec.toNat_ofNat]
theorem bits_and_nat (k : IntKind) (a b : Nat) : Go.bits .and k a b = k.wrap (((a % 2 ^ k.bits) &&& (b % 2 ^ k.bits) : Nat) : Int) := by
  simp only [Go.bits, BitVec.ofInt_natCast, BitVec.toNat_and, BitVec.toNat_ofNat]
theorem wrap_u64 (n : Int) : IntKind.u64.wrap n = n % 18446744073709551616 := by simp [IntKind.wrap, IntKind.bits, IntKind.signed]
theorem wf_i64 {n : Int} (h : (Lit.int .i64 n).wf = true) : -9223372036854775808 ≤ n ∧ n ≤ 9223372036854775807 := by
  simp [Lit.wf, IntKind.signed, IntKind.bits, IntKind.min, IntKind.max] at h
  omega
theorem xor_ones (x : Nat) (h : x < 18446744073709551616) : x ^^^ 18446744073709551615 = 18446744073709551615 - x := by
  have e := BitVec.toNat_not (x := BitVec.ofNat 64 x)
  rw [← BitVec.xor_allOnes, BitVec.toNat_xor, BitVec.toNat_allOnes, BitVec.toNat_ofNat] at e
  rw [Nat.mod_eq_of_lt (by simpa using h)] at e
  simpa using e
theorem wrap64_id {x : Int} (h0 : -9223372036854775808 ≤ x) (h1 : x ≤ 9223372036854775807) : wrap64 x = x := by unfold wrap64; omega
theorem u64_id {x : Int} (h0 : 0 ≤ x) (h1 : x < 18446744073709551616) : IntKind.u64.wrap x = x := by rw [wrap_u64]; omega
theorem tmod_nat (a b : Nat) : Int.tmod (a : Int) (b : Int) = ((a % b : Nat) : Int) := by rw [Int.tmod_eq_emod_of_nonneg (by omega)]; simp
theorem tdiv_nat (a b : Nat) : Int.tdiv (a : Int) (b : Int) = ((a / b : Nat) : Int) := by rw [Int.tdiv_eq_ediv_of_nonneg (by omega)]; simp

/-- A loop that fills a row, element by element. -/
theorem to_loop {α β : Type} (l0 : Nat → List α → List β → Int → Option (List β)) (conv : α → β) (z : α)
    (step : ∀ k xs acc i, l0 (k + 1) xs acc i = if i < (xs.length : Int) then (if 0 ≤ i then (if i < (acc.length : Int) then l0 k xs (acc.set i.toNat (conv (xs.getD i.toNat z))) (wrap64 (i + 1)) else none) else none) else some acc) :
    ∀ (d k i : Nat) (xs : List α) (acc : List β), xs.length = i + d → acc.length = xs.length → d < k → xs.length ≤ 4611686018427387904 → l0 k xs acc (i : Int) = some (acc.take i ++ (xs.drop i).map conv) := by
  intro d
  induction d with
  | zero =>
    intro k i xs acc h1 h2 hk _
    obtain ⟨k, rfl⟩ : ∃ m, k = m + 1 := ⟨k - 1, by omega⟩
    rw [step, if_neg (by omega), List.take_of_length_le (by omega), List.drop_eq_nil_of_le (by omega)]
    simp
  | succ d ih =>
    intro k i xs acc h1 h2 hk hm
    obtain ⟨k, rfl⟩ : ∃ m, k = m + 1 := ⟨k - 1, by omega⟩
    rw [step, if_pos (by omega), if_pos (by omega), if_pos (by omega)]
    have w : wrap64 ((i : Int) + 1) = ((i + 1 : Nat) : Int) := wrap64_id (by omega) (by omega)
    rw [w, ih k (i + 1) xs _ (by omega) (by simpa using h2) (by omega) hm]
    congr 1
    have hi : i < xs.length := by omega
    rw [Int.toNat_natCast, List.getD_eq_getElem?_getD, List.getElem?_eq_getElem hi, Option.getD_some]
    rw [List.drop_eq_getElem_cons hi, List.map_cons]
    have e : (acc.set i (conv xs[i])).take (i + 1) = acc.take i ++ [conv xs[i]] := by
      rw [List.take_set, List.take_succ_eq_append_getElem (by omega), List.set_append_right _ _ (by simp; omega)]
      simp [List.length_take, Nat.min_eq_left (by omega : i ≤ acc.length)]
    rw [e, List.append_assoc]; rfl
/-- The same from the start, over a row of zeros. -/
theorem to_all {α β : Type} (l0 : Nat → List α → List β → Int → Option (List β)) (conv : α → β) (z : α) (zb : β)
    (step : ∀ k xs acc i, l0 (k + 1) xs acc i = if i < (xs.length : Int) then (if 0 ≤ i then (if i < (acc.length : Int) then l0 k xs (acc.set i.toNat (conv (xs.getD i.toNat z))) (wrap64 (i + 1)) else none) else none) else some acc)
    (k : Nat) (xs : List α) (hk : xs.length < k) (hm : xs.length ≤ 4611686018427387904) : l0 k xs (List.replicate ((xs.length : Int)).toNat zb) 0 = some (xs.map conv) := by
  have h := to_loop l0 conv z step xs.length k 0 xs (List.replicate xs.length zb) (by omega) (by simp) hk hm
  simpa using h
/-- A loop that holds a row against itself. -/
theorem eq_loop {α : Type} (l0 : Nat → List α → List α → Int → Option Bool) (eq : α → α → Option Bool) (z : α) (hr : ∀ a, eq a a = some true)
    (step : ∀ k xs ys i, l0 (k + 1) xs ys i = if i < (xs.length : Int) then (if 0 ≤ i then (if i < (ys.length : Int) then ((eq (xs.getD i.toNat z) (ys.getD i.toNat z)).bind fun t => if t = true then l0 k xs ys (wrap64 (i + 1)) else some false) else none) else none) else some true) :
    ∀ (d k i : Nat) (xs : List α), xs.length = i + d → d < k → xs.length ≤ 4611686018427387904 → l0 k xs xs (i : Int) = some true := by
  intro d
  induction d with
  | zero =>
    intro k i xs h1 hk _
    obtain ⟨k, rfl⟩ : ∃ m, k = m + 1 := ⟨k - 1, by omega⟩
    rw [step, if_neg (by omega)]
  | succ d ih =>
    intro k i xs h1 hk hm
    obtain ⟨k, rfl⟩ : ∃ m, k = m + 1 := ⟨k - 1, by omega⟩
    rw [step, if_pos (by omega), if_pos (by omega), if_pos (by omega), hr, Option.bind_some, if_pos rfl]
    have w : wrap64 ((i : Int) + 1) = ((i + 1 : Nat) : Int) := wrap64_id (by omega) (by omega)
    rw [w, ih k (i + 1) xs (by omega) (by omega) hm]
theorem eq_all {α : Type} (l0 : Nat → List α → List α → Int → Option Bool) (eq : α → α → Option Bool) (z : α) (hr : ∀ a, eq a a = some true)
    (step : ∀ k xs ys i, l0 (k + 1) xs ys i = if i < (xs.length : Int) then (if 0 ≤ i then (if i < (ys.length : Int) then ((eq (xs.getD i.toNat z) (ys.getD i.toNat z)).bind fun t => if t = true then l0 k xs ys (wrap64 (i + 1)) else some false) else none) else none) else some true)
    (k : Nat) (xs : List α) (hk : xs.length < k) (hm : xs.length ≤ 4611686018427387904) : l0 k xs xs 0 = some true := by
  have h := eq_loop l0 eq z hr step xs.length k 0 xs (by omega) hk hm
  simpa using h
theorem getD_at {α : Type} {xs : List α} {i : Nat} (z : α) (h : i < xs.length) : xs.getD ((i : Int)).toNat z = xs[i] := by
  rw [Int.toNat_natCast, List.getD_eq_getElem?_getD, List.getElem?_eq_getElem h, Option.getD_some]

def convR (x : S129) : S77 := ⟨x.f0, x.f1, x.f2⟩
theorem toRangeS_ok (k : Nat) (l : List S129) (hk : l.length < k) (hl : l.length ≤ 1048576) : laws_toRangeS.f k l = some (l.map convR) := by
  unfold laws_toRangeS.f
  rw [if_pos (by omega), if_pos (by omega)]
  exact to_all laws_toRangeS.l0 convR z129 z77 (fun k xs acc i => by simp only [laws_toRangeS.l0, laws_toRange.f, Option.bind_some]; rfl) k l hk (by omega)
theorem eqRange_refl (a : S77) : laws_eqRange.f a.f0 a.f1 a.f2 a.f0 a.f1 a.f2 = some true := by simp [laws_eqRange.f]
theorem eqRangeS_refl (k : Nat) (l : List S77) (hk : l.length < k) (hl : l.length ≤ 1048576) : laws_eqRangeS.f k l l = some true := by
  unfold laws_eqRangeS.f
  rw [if_pos rfl]
  exact eq_all laws_eqRangeS.l0 (fun a b => laws_eqRange.f a.f0 a.f1 a.f2 b.f0 b.f1 b.f2) z77 eqRange_refl (fun k xs ys i => by simp only [laws_eqRangeS.l0]; rfl) k l hk (by omega)
theorem szRangeS_ok (l : List S129) (hl : l.length ≤ 9223372036854775807) : laws_szRangeS.f l 1048576 = some (if l.length ≤ 1048576 then 1048576 - (l.length : Int) else -1) := by
  unfold laws_szRangeS.f
  have w : wrap64 (1048576 - (l.length : Int)) = 1048576 - (l.length : Int) := wrap64_id (by omega) (by omega)
  rw [w]
  by_cases h : l.length ≤ 1048576
  · rw [if_neg (by omega), if_pos h]
  · rw [if_pos (by omega), if_neg h]

def cmpI (a b : Int) : Int := if a < b then -1 else if a > b then 1 else 0
theorem cmp_ok (a b : Int) : cmp_Compare_int64.f a b = some (cmpI a b) := by
  unfold cmp_Compare_int64.f cmp_isNaN_int64.f cmpI
  simp only [bne_self_eq_false, Option.bind_some]
  rw [if_neg (by simp), if_neg (by simp)]
  split
  · rfl
  · split <;> rfl
def orI : List Int → Int
  | [] => 0
  | x :: l => if x = 0 then orI l else x
theorem or_l0 : ∀ (d k i : Nat) (xs : List Int), xs.length = i + d → d < k → xs.length ≤ 1000 → cmp_Or_int.l0 k 0 xs (xs.length : Int) (i : Int) = some (orI (xs.drop i)) := by
  intro d
  induction d with
  | zero =>
    intro k i xs h1 hk _
    obtain ⟨k, rfl⟩ : ∃ m, k = m + 1 := ⟨k - 1, by omega⟩
    simp only [cmp_Or_int.l0]
    rw [if_neg (by omega), List.drop_eq_nil_of_le (by omega)]; rfl
  | succ d ih =>
    intro k i xs h1 hk hm
    obtain ⟨k, rfl⟩ : ∃ m, k = m + 1 := ⟨k - 1, by omega⟩
    have hi : i < xs.length := by omega
    have w : wrap64 ((i : Int) + 1) = ((i + 1 : Nat) : Int) := wrap64_id (by omega) (by omega)
    simp only [cmp_Or_int.l0]
    rw [if_pos (by omega), if_pos (by omega), if_pos (by omega), w, ih k (i + 1) xs (by omega) (by omega) hm, List.drop_eq_getElem_cons hi, orI, rd, getD_at 0 hi]
    split <;> rfl
theorem or_ok (k : Nat) (xs : List Int) (hk : xs.length < k) (hm : xs.length ≤ 1000) : cmp_Or_int.f k xs = some (orI xs) := by
  unfold cmp_Or_int.f
  have h := or_l0 xs.length k 0 xs (by omega) hk hm
  simpa using h

def rgLess (a b : S77) : Bool := if a.f0 < b.f0 then true else if a.f0 = b.f0 then decide (a.f1 < b.f1) else false
def rgFrom (xs : List S77) : Nat → Nat → Bool
  | _, 0 => true
  | i, d + 1 => rangeOk (xs.getD i z77).f0 (xs.getD i z77).f1 (xs.getD i z77).f2 && ((decide (i = 0) || rgLess (xs.getD (i - 1) z77) (xs.getD i z77)) && rgFrom xs (i + 1) d)
theorem s_rgLess (a b : S77) : spec_l16Less.f a.f0 a.f1 a.f2 b.f0 b.f1 b.f2 = some (rgLess a b) := by
  unfold spec_l16Less.f rgLess
  split
  · rfl
  · split <;> rfl
theorem i_rgOrder (k : Nat) (hk : 2 < k) (a b : S77) : ∃ n, impl_Range_order.f k a.f0 a.f1 a.f2 b.f0 b.f1 b.f2 = some n ∧ (n ≥ 0 ↔ rgLess a b = false) := by
  unfold impl_Range_order.f rgLess
  rw [cmp_ok, cmp_ok, Option.bind_some, Option.bind_some, or_ok k _ (by simpa using hk) (by simp), Option.bind_some]
  refine ⟨_, rfl, ?_⟩
  simp only [orI, cmpI]
  by_cases h1 : a.f0 < b.f0
  · simp [h1]
  · by_cases h2 : a.f0 = b.f0
    · rw [h2]
      by_cases h3 : a.f1 < b.f1
      · simp [h3]
      · by_cases h4 : a.f1 > b.f1 <;> simp [h3, h4]
    · have h5 : a.f0 > b.f0 := by omega
      simp [h1, h2, h5]
theorem s_rg_l0 : ∀ (d k i : Nat) (xs : List S77), xs.length = i + d → d < k → xs.length ≤ 1048576 → spec_RangesRight.l0 k xs (i : Int) = some (rgFrom xs i d) := by
  intro d
  induction d with
  | zero =>
    intro k i xs h1 hk _
    obtain ⟨k, rfl⟩ : ∃ m, k = m + 1 := ⟨k - 1, by omega⟩
    simp only [spec_RangesRight.l0]
    rw [if_neg (by omega)]; rfl
  | succ d ih =>
    intro k i xs h1 hk hm
    obtain ⟨k, rfl⟩ : ∃ m, k = m + 1 := ⟨k - 1, by omega⟩
    have w : wrap64 ((i : Int) + 1) = ((i + 1 : Nat) : Int) := wrap64_id (by omega) (by omega)
    simp only [spec_RangesRight.l0, rd_T77, rgFrom]
    rw [if_pos (by omega), if_pos (by omega), s_rangeRight, Option.bind_some, w, ih k (i + 1) xs (by omega) (by omega) hm, Int.toNat_natCast]
    by_cases hr : rangeOk (xs.getD i z77).f0 (xs.getD i z77).f1 (xs.getD i z77).f2 = true
    · rw [if_pos hr, hr]
      by_cases h0 : i = 0
      · rw [if_neg (by omega)]; simp [h0]
      · have w1 : wrap64 ((i : Int) - 1) = ((i - 1 : Nat) : Int) := by rw [wrap64_id (by omega) (by omega)]; omega
        rw [if_pos (by omega), w1, if_pos (by omega), if_pos (by omega), s_rgLess, Option.bind_some, Int.toNat_natCast]
        cases rgLess (xs.getD (i - 1) z77) (xs.getD i z77) <;> simp [h0]
    · rw [if_neg hr, Bool.eq_false_iff.2 hr]; simp
theorem i_rg_l0 : ∀ (d k i : Nat) (xs : List S77), xs.length = i + d → d + 3 < k → xs.length ≤ 1048576 → impl_RangesRight.l0 k xs xs (xs.length : Int) (i : Int) = some (rgFrom xs i d && decide ((xs.length : Int) ≤ 30)) := by
  intro d
  induction d with
  | zero =>
    intro k i xs h1 hk _
    obtain ⟨k, rfl⟩ : ∃ m, k = m + 1 := ⟨k - 1, by omega⟩
    simp only [impl_RangesRight.l0]
    rw [if_neg (by omega)]; simp [rgFrom]
  | succ d ih =>
    intro k i xs h1 hk hm
    obtain ⟨k, rfl⟩ : ∃ m, k = m + 1 := ⟨k - 1, by omega⟩
    have w : wrap64 ((i : Int) + 1) = ((i + 1 : Nat) : Int) := wrap64_id (by omega) (by omega)
    simp only [impl_RangesRight.l0, rd_T77, rgFrom]
    rw [if_pos (by omega), if_pos (by omega), if_pos (by omega), i_rangeRight, Option.bind_some, w, ih k (i + 1) xs (by omega) (by omega) hm, Int.toNat_natCast]
    by_cases hr : rangeOk (xs.getD i z77).f0 (xs.getD i z77).f1 (xs.getD i z77).f2 = true
    · rw [if_pos hr, hr]
      by_cases h0 : i = 0
      · rw [if_neg (by omega)]; simp [h0]
      · have w1 : wrap64 ((i : Int) - 1) = ((i - 1 : Nat) : Int) := by rw [wrap64_id (by omega) (by omega)]; omega
        obtain ⟨n, hn, hl⟩ := i_rgOrder k (by omega) (xs.getD (i - 1) z77) (xs.getD i z77)
        rw [if_pos (by omega), w1, if_pos (by omega), if_pos (by omega), Int.toNat_natCast, hn, Option.bind_some]
        by_cases hnn : n ≥ 0
        · rw [if_pos hnn, hl.1 hnn]; simp [h0]
        · have : rgLess (xs.getD (i - 1) z77) (xs.getD i z77) = true := by
            cases hh : rgLess (xs.getD (i - 1) z77) (xs.getD i z77)
            · exact absurd (hl.2 hh) hnn
            · rfl
          rw [if_neg hnn, this]; simp
    · rw [if_neg hr, Bool.eq_false_iff.2 hr]; simp
def rangesOk (xs : List S77) : Bool := rgFrom xs 0 xs.length && decide ((xs.length : Int) ≤ 30)
theorem s_rangesRight (k : Nat) (xs : List S77) (hk : xs.length < k) (hm : xs.length ≤ 1048576) : spec_RangesRight.f k xs = some (rangesOk xs) := by
  unfold spec_RangesRight.f rangesOk
  by_cases h : (xs.length : Int) > 30
  · rw [if_pos h]; simp; omega
  · rw [if_neg h]
    have e := s_rg_l0 xs.length k 0 xs (by omega) hk hm
    rw [show ((0 : Nat) : Int) = 0 from rfl] at e
    rw [e]; simp; omega
theorem i_rangesRight (k : Nat) (xs : List S77) (hk : xs.length + 3 < k) (hm : xs.length ≤ 1048576) : impl_RangesRight.f k xs = some (rangesOk xs) := by
  unfold impl_RangesRight.f rangesOk
  exact i_rg_l0 xs.length k 0 xs (by omega) hk hm

theorem pow_le32 {b : Int} (h0 : 0 ≤ b) : (0 : Int) < 2 ^ (32 - b).toNat ∧ (2 : Int) ^ (32 - b).toNat ≤ 4294967296 := by
  have hp := Nat.pow_le_pow_right (n := 2) (by decide) (show (32 - b).toNat ≤ 32 by omega)
  have hq := Nat.two_pow_pos (32 - b).toNat
  rw [show (2 : Nat) ^ 32 = 4294967296 from by decide] at hp
  have e : (2 : Int) ^ (32 - b).toNat = ((2 ^ (32 - b).toNat : Nat) : Int) := by simp
  rw [e]
  generalize 2 ^ (32 - b).toNat = z at *
  omega
def coversB (a b ip : Int) : Bool := decide (a ≤ ip ∧ ip < a + 2 ^ (32 - b).toNat)
theorem s_covers16 {a b c ip : Int} (ha : 0 ≤ a ∧ a ≤ 4294967295) (hb : 0 ≤ b ∧ b ≤ 32) : spec_l16Covers.f a b c ip = some (coversB a b ip) := by
  unfold spec_l16Covers.f coversB
  obtain ⟨p0, p1⟩ := pow_le32 hb.1
  rw [s_size hb.1 hb.2]
  simp only [Option.bind_some]
  generalize (2 : Int) ^ (32 - b).toNat = z at *
  have hw : wrap64 (a + z) = a + z := by unfold wrap64; omega
  rw [hw]
  by_cases h : ip ≥ a
  · rw [if_pos h]; by_cases h2 : ip < a + z <;> simp [h, h2]
  · rw [if_neg h]; congr 1; symm; apply decide_eq_false; omega
theorem i_covers {a b c ip : Int} (ha : 0 ≤ a ∧ a ≤ 4294967295) (hb : 0 ≤ b ∧ b ≤ 32) : impl_Range_covers.f a b c ip = some (coversB a b ip) := by
  unfold impl_Range_covers.f coversB
  obtain ⟨p0, p1⟩ := pow_le32 hb.1
  rw [i_size hb.1 hb.2]
  simp only [Option.bind_some, i_in]
  generalize (2 : Int) ^ (32 - b).toNat = z at *
  have hw : wrap64 (wrap64 (a + z) - 1) = a + z - 1 := by unfold wrap64; omega
  rw [hw]
  congr 1
  rw [decide_eq_decide]
  omega

theorem rgFrom_all : ∀ (d i : Nat) (xs : List S77), rgFrom xs i d = true → ∀ j, i ≤ j → j < i + d → rangeOk (xs.getD j z77).f0 (xs.getD j z77).f1 (xs.getD j z77).f2 = true
  | 0, i, xs, _, j, h1, h2 => by omega
  | d + 1, i, xs, h, j, h1, h2 => by
    simp only [rgFrom, Bool.and_eq_true] at h
    by_cases e : j = i
    · rw [e]; exact h.1
    · exact rgFrom_all d (i + 1) xs h.2.2 j (by omega) (by omega)
theorem long_both (ip : Int) (xs : List S77) (hv : ∀ j, j < xs.length → rangeOk (xs.getD j z77).f0 (xs.getD j z77).f1 (xs.getD j z77).f2 = true) (hm : xs.length ≤ 1048576) :
    ∀ (d k i : Nat) (fnd : Bool) (b0 b1 b2 o0 o1 o2 : Int), xs.length = i + d → d < k →
    (fnd = false ∧ b0 = 0 ∧ b1 = -1 ∧ b2 = 0 ∧ o0 = 0 ∧ o1 = 0 ∧ o2 = 0) ∨ (fnd = true ∧ b0 = o0 ∧ b1 = o1 ∧ b2 = o2 ∧ 0 ≤ o1) →
    ∃ r0 r1 r2 fr, spec_l16Long.l0 k xs ip 33 (i : Int) b0 b1 b2 = some (r0, r1, r2) ∧ impl_longest.l0 k ip 33 fnd xs (xs.length : Int) (i : Int) o0 o1 o2 = some (r0, r1, r2, fr) := by
  intro d
  induction d with
  | zero =>
    intro k i fnd b0 b1 b2 o0 o1 o2 h1 hk hr
    obtain ⟨k, rfl⟩ : ∃ m, k = m + 1 := ⟨k - 1, by omega⟩
    rcases hr with ⟨rfl, rfl, rfl, rfl, rfl, rfl, rfl⟩ | ⟨rfl, rfl, rfl, rfl, h⟩
    · exact ⟨0, 0, 0, false, by rw [spec_l16Long.l0, if_neg (by omega), if_pos (by omega)], by rw [impl_longest.l0, if_neg (by omega)]⟩
    · exact ⟨_, _, _, true, by rw [spec_l16Long.l0, if_neg (by omega), if_neg (by omega)], by rw [impl_longest.l0, if_neg (by omega)]⟩
  | succ d ih =>
    intro k i fnd b0 b1 b2 o0 o1 o2 h1 hk hr
    obtain ⟨k, rfl⟩ : ∃ m, k = m + 1 := ⟨k - 1, by omega⟩
    have w : wrap64 ((i : Int) + 1) = ((i + 1 : Nat) : Int) := wrap64_id (by omega) (by omega)
    have hi : i < xs.length := by omega
    have hrd : rd_T77 xs (i : Int) = xs[i] := getD_at _ hi
    have hx := hv i (by omega)
    rw [List.getD_eq_getElem?_getD, List.getElem?_eq_getElem hi, Option.getD_some] at hx
    obtain ⟨ha, hb⟩ := rangeOk_of hx
    have e1 : spec_l16Long.l0 (k + 1) xs ip 33 (i : Int) b0 b1 b2 = if xs[i].f1 > b1 then (if coversB xs[i].f0 xs[i].f1 ip = true then spec_l16Long.l0 k xs ip 33 ((i + 1 : Nat) : Int) xs[i].f0 xs[i].f1 xs[i].f2 else spec_l16Long.l0 k xs ip 33 ((i + 1 : Nat) : Int) b0 b1 b2) else spec_l16Long.l0 k xs ip 33 ((i + 1 : Nat) : Int) b0 b1 b2 := by
      rw [spec_l16Long.l0, if_pos (by omega), if_pos (by omega), w, hrd, if_pos (by omega), s_covers16 ha hb, Option.bind_some]
    have e2 : impl_longest.l0 (k + 1) ip 33 fnd xs (xs.length : Int) (i : Int) o0 o1 o2 = if coversB xs[i].f0 xs[i].f1 ip = true then (if fnd = true then (if xs[i].f1 > o1 then impl_longest.l0 k ip 33 true xs (xs.length : Int) ((i + 1 : Nat) : Int) xs[i].f0 xs[i].f1 xs[i].f2 else impl_longest.l0 k ip 33 fnd xs (xs.length : Int) ((i + 1 : Nat) : Int) o0 o1 o2) else impl_longest.l0 k ip 33 true xs (xs.length : Int) ((i + 1 : Nat) : Int) xs[i].f0 xs[i].f1 xs[i].f2) else impl_longest.l0 k ip 33 fnd xs (xs.length : Int) ((i + 1 : Nat) : Int) o0 o1 o2 := by
      rw [impl_longest.l0, if_pos (by omega), if_pos (by omega), if_pos (by omega), w, hrd, i_covers ha hb, Option.bind_some, if_pos (show xs[i].f1 < 33 by omega)]
    clear hrd hx
    generalize xs[i] = x at *
    by_cases hc : coversB x.f0 x.f1 ip = true
    · rw [if_pos hc] at e1 e2
      rcases hr with ⟨rfl, rfl, rfl, rfl, rfl, rfl, rfl⟩ | ⟨rfl, rfl, rfl, rfl, h⟩
      · rw [if_pos (by omega)] at e1
        rw [if_neg (by simp)] at e2
        obtain ⟨r0, r1, r2, fr, g1, g2⟩ := ih k (i + 1) true x.f0 x.f1 x.f2 x.f0 x.f1 x.f2 (by omega) (by omega) (.inr ⟨rfl, rfl, rfl, rfl, hb.1⟩)
        exact ⟨r0, r1, r2, fr, e1.trans g1, e2.trans g2⟩
      · rw [if_pos rfl] at e2
        by_cases hg : x.f1 > b1
        · rw [if_pos hg] at e1 e2
          obtain ⟨r0, r1, r2, fr, g1, g2⟩ := ih k (i + 1) true x.f0 x.f1 x.f2 x.f0 x.f1 x.f2 (by omega) (by omega) (.inr ⟨rfl, rfl, rfl, rfl, hb.1⟩)
          exact ⟨r0, r1, r2, fr, e1.trans g1, e2.trans g2⟩
        · rw [if_neg hg] at e1 e2
          obtain ⟨r0, r1, r2, fr, g1, g2⟩ := ih k (i + 1) true b0 b1 b2 b0 b1 b2 (by omega) (by omega) (.inr ⟨rfl, rfl, rfl, rfl, h⟩)
          exact ⟨r0, r1, r2, fr, e1.trans g1, e2.trans g2⟩
    · rw [if_neg hc] at e1 e2
      obtain ⟨r0, r1, r2, fr, g1, g2⟩ := ih k (i + 1) fnd b0 b1 b2 o0 o1 o2 (by omega) (by omega) hr
      refine ⟨r0, r1, r2, fr, ?_, e2.trans g2⟩
      rw [e1]
      split <;> exact g1
theorem longest_both (k : Nat) (ip : Int) (xs : List S77) (hk : xs.length + 3 < k) (hm : xs.length ≤ 1048576) :
    ∃ r, spec_Longest.f k xs ip = some r ∧ impl_Longest.f k xs ip = some r := by
  unfold spec_Longest.f impl_Longest.f spec_l02Ip.f impl_isIp.f
  rw [s_rangesRight k xs (by omega) hm, i_rangesRight k xs hk hm, s_is, i_in]
  simp only [Option.bind_some]
  by_cases h : rangesOk xs = true
  · rw [if_pos h, if_pos h]
    by_cases hi : 0 ≤ ip ∧ ip ≤ 4294967295
    · rw [if_pos (by simpa using hi), if_pos (by simpa using hi)]
      have hv : ∀ j, j < xs.length → rangeOk (xs.getD j z77).f0 (xs.getD j z77).f1 (xs.getD j z77).f2 = true := fun j hj => by
        unfold rangesOk at h
        rw [Bool.and_eq_true] at h
        exact rgFrom_all _ _ _ h.1 j (by omega) (by omega)
      obtain ⟨r0, r1, r2, fr, e1, e2⟩ := long_both ip xs hv hm xs.length k 0 false 0 (-1) 0 0 0 0 (by omega) (by omega) (.inl ⟨rfl, rfl, rfl, rfl, rfl, rfl, rfl⟩)
      rw [show ((0 : Nat) : Int) = 0 from rfl] at e1 e2
      unfold spec_l16Long.f impl_longest.f
      rw [e1, e2]
      exact ⟨_, rfl, rfl⟩
    · rw [if_neg (by simpa using hi), if_neg (by simpa using hi)]
      exact ⟨_, rfl, rfl⟩
  · rw [if_neg h, if_neg h]
    exact ⟨_, rfl, rfl⟩

theorem FnExactLongest : laws_FnExactLongest.Pure := by
  intro l ip ⟨hl, _⟩ _
  refine ⟨l.length + 4, ?_⟩
  unfold laws_FnExactLongest.f
  rw [szRangeS_ok l hl, Option.bind_some]
  by_cases h : l.length ≤ 1048576
  · have hm : (l.map convR).length = l.length := List.length_map _
    rw [if_pos h, if_neg (by omega), toRangeS_ok _ l (by omega) h]
    simp only [Option.bind_some]
    obtain ⟨⟨r0, r1, r2⟩, e1, e2⟩ := longest_both (l.length + 4) ip (l.map convR) (by omega) (by omega)
    rw [e1, e2]
    simp only [Option.bind_some]
    rw [eqRangeS_refl _ _ (by omega) (by omega)]
    simp [laws_eqRange.f]
  · rw [if_neg h, if_pos (by omega)]

end Go.Proofs.Ytkbhdiambabnnaa.Pure
