/- The plain law of FnExactActRight: for all arguments that fit the guards its printed function answers true. -/
import Derived.Test.YtboefhiobafijaaPFnExactActRightx
set_option linter.unusedVariables false
set_option linter.unusedSimpArgs false
namespace Go.Proofs.Ytboefhiobafijaa.Pure
open Go.RowKit Go.Proofs.Ytboefhiobafijaa.PFnExactActRight Go.Proofs.YtboefhiobafijaaW.PrintWords Go.Proofs.YtboefhiobafijaaW.PrintLast Go.Proofs.YtboefhiobafijaaW.PrintMore

theorem bits_xor_nat (k : IntKind) (a b : Nat) : Go.bits .xor k a b = k.wrap (((a % 2 ^ k.bits) ^^^ (b % 2 ^ k.bits) : Nat) : Int) := by
  simp only [Go.bits, BitVec.ofInt_natCast, BitVec.toNat_xor, BitVec.toNat_ofNat]
theorem bits_or_nat (k : IntKind) (a b : Nat) : Go.bits .or k a b = k.wrap (((a % 2 ^ k.bits) ||| (b % 2 ^ k.bits) : Nat) : Int) := by
  simp only [Go.bits, BitVec.ofInt_natCast, BitVec.toNat_or, BitVec.toNat_ofNat]
theorem bits_and_nat (k : IntKind) (a b : Nat) : Go.bits .and k a b = k.wrap (((a % 2 ^ k.bits) &&& (b % 2 ^ k.bits) : Nat) : Int) := by
  simp only [Go.bits, BitVec.ofInt_natCast, BitVec.toNat_and, BitVec.toNat_ofNat]
theorem wrap_u64 (n : Int) : IntKind.u64.wrap n = n % 18446744073709551616 := by simp [IntKind.wrap, IntKind.bits, IntKind.signed]
theorem wf_i64 {n : Int} (h : (Lit.int .i64 n).wf = true) : -9223372036854775808 ≤ n ∧ n ≤ 9223372036854775807 := by
  simp [Lit.wf, IntKind.signed, IntKind.bits, IntKind.min, IntKind.max] at h
  omega
theorem xor_ones (x : Nat) (h : x < 18446744073709551616) : x ^^^ 18446744073709551615 = 18446744073709551615 - x := by
  have e := BitVec.toNat_not (x := BitVec.ofNat 64 x)
  rw [← BitVec.xor_allOnes, BitVec.toNat_xor, BitVec.toNat_allOnes, BitVec.toNat_ofNat] at e
  rw [Nat.mod_eq_of_lt (by simpa using h)] at e
  simpa using e
theorem wrap64_id {x : Int} (h0 : -9223372036854775808 ≤ x) (h1 : x ≤ 9223372036854775807) : wrap64 x = x := by unfold wrap64; omega
theorem u64_id {x : Int} (h0 : 0 ≤ x) (h1 : x < 18446744073709551616) : IntKind.u64.wrap x = x := by rw [wrap_u64]; omega
theorem tmod_nat (a b : Nat) : Int.tmod (a : Int) (b : Int) = ((a % b : Nat) : Int) := by rw [Int.tmod_eq_emod_of_nonneg (by omega)]; simp
theorem tdiv_nat (a b : Nat) : Int.tdiv (a : Int) (b : Int) = ((a / b : Nat) : Int) := by rw [Int.tdiv_eq_ediv_of_nonneg (by omega)]; simp

/-- A loop that fills a row, element by element. -/
theorem to_loop {α β : Type} (l0 : Nat → List α → List β → Int → Option (List β)) (conv : α → β) (z : α)
    (step : ∀ k xs acc i, l0 (k + 1) xs acc i = if i < (xs.length : Int) then (if 0 ≤ i then (if i < (acc.length : Int) then l0 k xs (acc.set i.toNat (conv (xs.getD i.toNat z))) (wrap64 (i + 1)) else none) else none) else some acc) :
    ∀ (d k i : Nat) (xs : List α) (acc : List β), xs.length = i + d → acc.length = xs.length → d < k → xs.length ≤ 4611686018427387904 → l0 k xs acc (i : Int) = some (acc.take i ++ (xs.drop i).map conv) := by
  intro d
  induction d with
  | zero =>
    intro k i xs acc h1 h2 hk _
    obtain ⟨k, rfl⟩ : ∃ m, k = m + 1 := ⟨k - 1, by omega⟩
    rw [step, if_neg (by omega), List.take_of_length_le (by omega), List.drop_eq_nil_of_le (by omega)]
    simp
  | succ d ih =>
    intro k i xs acc h1 h2 hk hm
    obtain ⟨k, rfl⟩ : ∃ m, k = m + 1 := ⟨k - 1, by omega⟩
    rw [step, if_pos (by omega), if_pos (by omega), if_pos (by omega)]
    have w : wrap64 ((i : Int) + 1) = ((i + 1 : Nat) : Int) := wrap64_id (by omega) (by omega)
    rw [w, ih k (i + 1) xs _ (by omega) (by simpa using h2) (by omega) hm]
    congr 1
    have hi : i < xs.length := by omega
    rw [Int.toNat_natCast, List.getD_eq_getElem?_getD, List.getElem?_eq_getElem hi, Option.getD_some]
    rw [List.drop_eq_getElem_cons hi, List.map_cons]
    have e : (acc.set i (conv xs[i])).take (i + 1) = acc.take i ++ [conv xs[i]] := by
      rw [List.take_set, List.take_succ_eq_append_getElem (by omega), List.set_append_right _ _ (by simp; omega)]
      simp [List.length_take, Nat.min_eq_left (by omega : i ≤ acc.length)]
    rw [e, List.append_assoc]; rfl
/-- The same from the start, over a row of zeros. -/
theorem to_all {α β : Type} (l0 : Nat → List α → List β → Int → Option (List β)) (conv : α → β) (z : α) (zb : β)
    (step : ∀ k xs acc i, l0 (k + 1) xs acc i = if i < (xs.length : Int) then (if 0 ≤ i then (if i < (acc.length : Int) then l0 k xs (acc.set i.toNat (conv (xs.getD i.toNat z))) (wrap64 (i + 1)) else none) else none) else some acc)
    (k : Nat) (xs : List α) (hk : xs.length < k) (hm : xs.length ≤ 4611686018427387904) : l0 k xs (List.replicate ((xs.length : Int)).toNat zb) 0 = some (xs.map conv) := by
  have h := to_loop l0 conv z step xs.length k 0 xs (List.replicate xs.length zb) (by omega) (by simp) hk hm
  simpa using h
/-- A loop that holds a row against itself. -/
theorem eq_loop {α : Type} (l0 : Nat → List α → List α → Int → Option Bool) (eq : α → α → Option Bool) (z : α) (hr : ∀ a, eq a a = some true)
    (step : ∀ k xs ys i, l0 (k + 1) xs ys i = if i < (xs.length : Int) then (if 0 ≤ i then (if i < (ys.length : Int) then ((eq (xs.getD i.toNat z) (ys.getD i.toNat z)).bind fun t => if t = true then l0 k xs ys (wrap64 (i + 1)) else some false) else none) else none) else some true) :
    ∀ (d k i : Nat) (xs : List α), xs.length = i + d → d < k → xs.length ≤ 4611686018427387904 → l0 k xs xs (i : Int) = some true := by
  intro d
  induction d with
  | zero =>
    intro k i xs h1 hk _
    obtain ⟨k, rfl⟩ : ∃ m, k = m + 1 := ⟨k - 1, by omega⟩
    rw [step, if_neg (by omega)]
  | succ d ih =>
    intro k i xs h1 hk hm
    obtain ⟨k, rfl⟩ : ∃ m, k = m + 1 := ⟨k - 1, by omega⟩
    rw [step, if_pos (by omega), if_pos (by omega), if_pos (by omega), hr, Option.bind_some, if_pos rfl]
    have w : wrap64 ((i : Int) + 1) = ((i + 1 : Nat) : Int) := wrap64_id (by omega) (by omega)
    rw [w, ih k (i + 1) xs (by omega) (by omega) hm]
theorem eq_all {α : Type} (l0 : Nat → List α → List α → Int → Option Bool) (eq : α → α → Option Bool) (z : α) (hr : ∀ a, eq a a = some true)
    (step : ∀ k xs ys i, l0 (k + 1) xs ys i = if i < (xs.length : Int) then (if 0 ≤ i then (if i < (ys.length : Int) then ((eq (xs.getD i.toNat z) (ys.getD i.toNat z)).bind fun t => if t = true then l0 k xs ys (wrap64 (i + 1)) else some false) else none) else none) else some true)
    (k : Nat) (xs : List α) (hk : xs.length < k) (hm : xs.length ≤ 4611686018427387904) : l0 k xs xs 0 = some true := by
  have h := eq_loop l0 eq z hr step xs.length k 0 xs (by omega) hk hm
  simpa using h
theorem getD_at {α : Type} {xs : List α} {i : Nat} (z : α) (h : i < xs.length) : xs.getD ((i : Int)).toNat z = xs[i] := by
  rw [Int.toNat_natCast, List.getD_eq_getElem?_getD, List.getElem?_eq_getElem h, Option.getD_some]

theorem toInt64S_ok (k : Nat) (l : List Int) (hk : l.length < k) (hl : l.length ≤ 1048576) : laws_toInt64S.f k l = some l := by
  unfold laws_toInt64S.f
  rw [if_pos (by omega), if_pos (by omega)]
  have h := to_all laws_toInt64S.l0 (fun x : Int => x) 0 0 (fun k xs acc i => by simp only [laws_toInt64S.l0]; rfl) k l hk (by omega)
  simpa using h
theorem eqInt64S_refl (k : Nat) (l : List Int) (hk : l.length < k) (hl : l.length ≤ 1048576) : laws_eqInt64S.f k l l = some true := by
  unfold laws_eqInt64S.f
  rw [if_pos rfl]
  exact eq_all laws_eqInt64S.l0 (fun a b => some (decide (a = b))) 0 (fun a => by simp) (fun k xs ys i => by simp only [laws_eqInt64S.l0, Option.bind_some, decide_eq_true_eq]; rfl) k l hk (by omega)
theorem szInt64S_ok (l : List Int) (hl : l.length ≤ 9223372036854775807) (x : Int) (h0 : 0 ≤ x) (h1 : x ≤ 1048576) : ∃ t, laws_szInt64S.f l x = some t ∧ (0 ≤ t → l.length ≤ 1048576) := by
  unfold laws_szInt64S.f
  have w : wrap64 (x - (l.length : Int)) = x - (l.length : Int) := wrap64_id (by omega) (by omega)
  rw [w]
  by_cases h : x - (l.length : Int) < 0
  · rw [if_pos h]; exact ⟨_, rfl, fun h => absurd h (by omega)⟩
  · rw [if_neg h]; exact ⟨_, rfl, fun _ => by omega⟩

theorem nums_of (w : ByteArray) (k : Nat) : ∃ n : Int, spec_l15Many.f (k + 1) w = some n ∧ impl_numsOf.f 5 w = some n ∧ n ≤ 5 := by
  simp only [spec_l15Many.f, impl_numsOf.f, spec_l15Many.j0, impl_numsOf.j0]
  generalize w.toList = x
  by_cases h1 : x = ([97, 115, 107] : List UInt8)
  · subst h1; exact ⟨5, by decide, by decide, by decide⟩
  by_cases h2 : x = ([115, 97, 121] : List UInt8)
  · subst h2; exact ⟨4, by decide, by decide, by decide⟩
  by_cases h3 : x = ([114, 101, 115, 101, 116] : List UInt8)
  · subst h3; exact ⟨3, by decide, by decide, by decide⟩
  by_cases h4 : x = ([112, 105, 110] : List UInt8)
  · subst h4; exact ⟨3, by decide, by decide, by decide⟩
  by_cases h5 : x = ([99, 108, 101, 97, 114] : List UInt8)
  · subst h5; exact ⟨3, by decide, by decide, by decide⟩
  by_cases h6 : x = ([119, 104, 101, 114, 101] : List UInt8)
  · subst h6; exact ⟨3, by decide, by decide, by decide⟩
  by_cases h7 : x = ([100, 101, 108, 105, 118, 101, 114] : List UInt8)
  · subst h7; exact ⟨1, by decide, by decide, by decide⟩
  by_cases h8 : x = ([108, 111, 115, 101] : List UInt8)
  · subst h8; exact ⟨1, by decide, by decide, by decide⟩
  by_cases h9 : x = ([116, 119, 105, 99, 101] : List UInt8)
  · subst h9; exact ⟨1, by decide, by decide, by decide⟩
  by_cases h10 : x = ([116, 105, 99, 107] : List UInt8)
  · subst h10; exact ⟨1, by decide, by decide, by decide⟩
  by_cases h11 : x = ([114, 101, 115, 116, 97, 114, 116] : List UInt8)
  · subst h11; exact ⟨1, by decide, by decide, by decide⟩
  by_cases h12 : x = ([115, 101, 116, 116, 108, 101] : List UInt8)
  · subst h12; exact ⟨1, by decide, by decide, by decide⟩
  by_cases h13 : x = ([104, 101, 97, 114, 100] : List UInt8)
  · subst h13; exact ⟨1, by decide, by decide, by decide⟩
  refine ⟨-1, ?_, ?_, by decide⟩
  · simp [h1, h2, h3, h4, h5, h6, h7, h8, h9, h10, h11, h12, h13]
  · simp [h1, h2, h3, h4, h5, h6, h7, h8, h9, h10, h11, h12, h13]

--@use ints_conv
--@use numsof
theorem sa_l0 (a0 : ByteArray) (l : List Int) (hl : l.length ≤ 60) : ∀ (d k i : Nat), l.length = i + d → d < k →
    spec_ActRight.l0 k (i : Int) a0 l = some (!((l.drop i).any impl_ActRight.bad)) := by
  intro d
  induction d with
  | zero =>
    intro k i h hk
    obtain ⟨k, rfl⟩ : ∃ q, k = q + 1 := ⟨k - 1, by omega⟩
    rw [spec_ActRight.l0, if_neg (by omega), List.drop_eq_nil_of_le (by omega)]
    rfl
  | succ d ih =>
    intro k i h hk
    obtain ⟨k, rfl⟩ : ∃ q, k = q + 1 := ⟨k - 1, by omega⟩
    have hi : i < l.length := by omega
    have w : wrap64 ((i : Int) + 1) = ((i + 1 : Nat) : Int) := wrap64_id (by omega) (by omega)
    have e : rd l (i : Int) = l[i] := by unfold rd; rw [getD_at _ hi]
    have es : spec_l02Is.f l[i] 0 999999999 = some (impl_ActRight.okn l[i]) := by
      unfold spec_l02Is.f impl_ActRight.okn
      by_cases h0 : 0 ≤ l[i]
      · rw [if_pos h0, decide_eq_true h0]; rfl
      · rw [if_neg (by omega), decide_eq_false h0]; rfl
    rw [spec_ActRight.l0, if_pos (by omega), if_pos (by omega), e, w, es, Option.bind_some, List.drop_eq_getElem_cons hi, List.any_cons]
    have hb : impl_ActRight.bad l[i] = !(impl_ActRight.okn l[i]) := rfl
    rw [hb]
    cases impl_ActRight.okn l[i] with
    | false => rfl
    | true => rw [if_pos rfl, Bool.not_true, Bool.false_or, ih k (i + 1) (by omega) (by omega)]
theorem sa_right (k : Nat) (hk : 70 ≤ k) (a0 : ByteArray) (l : List Int) : spec_ActRight.f k a0 l = impl_ActRight.f a0 l ∧ ∃ b, impl_ActRight.f a0 l = some b := by
  obtain ⟨k, rfl⟩ : ∃ q, k = q + 1 := ⟨k - 1, by omega⟩
  obtain ⟨n, e1, e2, hn⟩ := nums_of a0 k
  unfold spec_ActRight.f impl_ActRight.f
  rw [e1, e2, Option.bind_some, Option.bind_some]
  by_cases h : (l.length : Int) = n
  · rw [if_pos h, if_pos h, if_pos (by omega)]
    have := sa_l0 a0 l (by omega) l.length (k + 1) 0 (by omega) (by omega)
    rw [List.drop_zero] at this
    rw [show (0 : Int) = ((0 : Nat) : Int) from rfl, this]
    exact ⟨rfl, _, rfl⟩
  · rw [if_neg h, if_neg h]
    exact ⟨rfl, _, rfl⟩
theorem FnExactActRight : laws_FnExactActRight.Pure := by
  intro a0 l h0 hl
  refine ⟨1048600, ?_⟩
  unfold laws_FnExactActRight.f laws_szAct.f
  have w : wrap64 (1048576 - (a0.size : Int)) = 1048576 - (a0.size : Int) := wrap64_id (by omega) (by omega)
  rw [w]
  by_cases hs : 1048576 - (a0.size : Int) < 0
  · rw [if_pos hs, Option.bind_some, if_pos (by omega)]
  · obtain ⟨t, e, ht⟩ := szInt64S_ok l hl.1 (1048576 - (a0.size : Int)) (by omega) (by omega)
    rw [if_neg hs, e, Option.bind_some]
    by_cases hn : t < 0
    · rw [if_pos hn, Option.bind_some, if_pos (by omega)]
    · have hlen := ht (by omega)
      rw [if_neg hn, Option.bind_some, if_neg hn]
      unfold laws_toAct.f
      rw [toInt64S_ok 1048600 l (by omega) hlen]
      simp only [Option.bind_some]
      obtain ⟨e1, b, e2⟩ := sa_right 1048600 (by omega) a0 l
      rw [e1, e2]
      simp only [Option.bind_some]
      rw [if_neg (by simp)]
      unfold laws_eqAct.f
      rw [if_pos rfl, eqInt64S_refl 1048600 l (by omega) hlen]
      rfl

end Go.Proofs.Ytboefhiobafijaa.Pure
