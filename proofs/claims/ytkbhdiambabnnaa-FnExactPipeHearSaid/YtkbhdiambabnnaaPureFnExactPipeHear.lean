/- The plain law of FnExactPipeHear: for all arguments that fit the guards its printed function answers true. -/
import Derived.Test.YtkbhdiambabnnaaPFnExactPipeHearx
set_option linter.unusedVariables false
set_option linter.unusedSimpArgs false
namespace Go.Proofs.Ytkbhdiambabnnaa.Pure
open Go.RowKit Go.Proofs.Ytkbhdiambabnnaa.PFnExactPipeHear Go.Proofs.YtkbhdiambabnnaaW.PrintWords Go.Proofs.YtkbhdiambabnnaaW.PrintLast Go.Proofs.YtkbhdiambabnnaaW.PrintMore

theorem bits_xor_nat (k : IntKind) (a b : Nat) : Go.bits .xor k a b = k.wrap (((a % 2 ^ k.bits) ^^^ (b % 2 ^ k.bits) : Nat) : Int) := by
  simp only [Go.bits, BitVec.ofInt_natCast, BitVec.toNat_xor, BitVec.toNat_ofNat]
theorem bits_or_nat (k : IntKind) (a b : Nat) : Go.bits .or k a b = k.wrap (((a % 2 ^ k.bits) ||| (b % 2 ^ k.bits) : Nat) : Int) := by
  simp only [Go.bits, BitVec.ofInt_natCast, BitVec.toNat_or, BitVec.toNat_ofNat]
theorem bits_and_nat (k : IntKind) (a b : Nat) : Go.bits .and k a b = k.wrap (((a % 2 ^ k.bits) &&& (b % 2 ^ k.bits) : Nat) : Int) := by
  simp only [Go.bits, BitVec.ofInt_natCast, BitVec.toNat_and, BitVec.toNat_ofNat]
theorem wrap_u64 (n : Int) : IntKind.u64.wrap n = n % 18446744073709551616 := by simp [IntKind.wrap, IntKind.bits, IntKind.signed]
theorem wf_i64 {n : Int} (h : (Lit.int .i64 n).wf = true) : -9223372036854775808 ≤ n ∧ n ≤ 9223372036854775807 := by
  simp [Lit.wf, IntKind.signed, IntKind.bits, IntKind.min, IntKind.max] at h
  omega
theorem xor_ones (x : Nat) (h : x < 18446744073709551616) : x ^^^ 18446744073709551615 = 18446744073709551615 - x := by
  have e := BitVec.toNat_not (x := BitVec.ofNat 64 x)
  rw [← BitVec.xor_allOnes, BitVec.toNat_xor, BitVec.toNat_allOnes, BitVec.toNat_ofNat] at e
  rw [Nat.mod_eq_of_lt (by simpa using h)] at e
  simpa using e
theorem wrap64_id {x : Int} (h0 : -9223372036854775808 ≤ x) (h1 : x ≤ 9223372036854775807) : wrap64 x = x := by unfold wrap64; omega
theorem u64_id {x : Int} (h0 : 0 ≤ x) (h1 : x < 18446744073709551616) : IntKind.u64.wrap x = x := by rw [wrap_u64]; omega
theorem tmod_nat (a b : Nat) : Int.tmod (a : Int) (b : Int) = ((a % b : Nat) : Int) := by rw [Int.tmod_eq_emod_of_nonneg (by omega)]; simp
theorem tdiv_nat (a b : Nat) : Int.tdiv (a : Int) (b : Int) = ((a / b : Nat) : Int) := by rw [Int.tdiv_eq_ediv_of_nonneg (by omega)]; simp

/-- A loop that fills a row, element by element. -/
theorem to_loop {α β : Type} (l0 : Nat → List α → List β → Int → Option (List β)) (conv : α → β) (z : α)
    (step : ∀ k xs acc i, l0 (k + 1) xs acc i = if i < (xs.length : Int) then (if 0 ≤ i then (if i < (acc.length : Int) then l0 k xs (acc.set i.toNat (conv (xs.getD i.toNat z))) (wrap64 (i + 1)) else none) else none) else some acc) :
    ∀ (d k i : Nat) (xs : List α) (acc : List β), xs.length = i + d → acc.length = xs.length → d < k → xs.length ≤ 4611686018427387904 → l0 k xs acc (i : Int) = some (acc.take i ++ (xs.drop i).map conv) := by
  intro d
  induction d with
  | zero =>
    intro k i xs acc h1 h2 hk _
    obtain ⟨k, rfl⟩ : ∃ m, k = m + 1 := ⟨k - 1, by omega⟩
    rw [step, if_neg (by omega), List.take_of_length_le (by omega), List.drop_eq_nil_of_le (by omega)]
    simp
  | succ d ih =>
    intro k i xs acc h1 h2 hk hm
    obtain ⟨k, rfl⟩ : ∃ m, k = m + 1 := ⟨k - 1, by omega⟩
    rw [step, if_pos (by omega), if_pos (by omega), if_pos (by omega)]
    have w : wrap64 ((i : Int) + 1) = ((i + 1 : Nat) : Int) := wrap64_id (by omega) (by omega)
    rw [w, ih k (i + 1) xs _ (by omega) (by simpa using h2) (by omega) hm]
    congr 1
    have hi : i < xs.length := by omega
    rw [Int.toNat_natCast, List.getD_eq_getElem?_getD, List.getElem?_eq_getElem hi, Option.getD_some]
    rw [List.drop_eq_getElem_cons hi, List.map_cons]
    have e : (acc.set i (conv xs[i])).take (i + 1) = acc.take i ++ [conv xs[i]] := by
      rw [List.take_set, List.take_succ_eq_append_getElem (by omega), List.set_append_right _ _ (by simp; omega)]
      simp [List.length_take, Nat.min_eq_left (by omega : i ≤ acc.length)]
    rw [e, List.append_assoc]; rfl
/-- The same from the start, over a row of zeros. -/
theorem to_all {α β : Type} (l0 : Nat → List α → List β → Int → Option (List β)) (conv : α → β) (z : α) (zb : β)
    (step : ∀ k xs acc i, l0 (k + 1) xs acc i = if i < (xs.length : Int) then (if 0 ≤ i then (if i < (acc.length : Int) then l0 k xs (acc.set i.toNat (conv (xs.getD i.toNat z))) (wrap64 (i + 1)) else none) else none) else some acc)
    (k : Nat) (xs : List α) (hk : xs.length < k) (hm : xs.length ≤ 4611686018427387904) : l0 k xs (List.replicate ((xs.length : Int)).toNat zb) 0 = some (xs.map conv) := by
  have h := to_loop l0 conv z step xs.length k 0 xs (List.replicate xs.length zb) (by omega) (by simp) hk hm
  simpa using h
/-- A loop that holds a row against itself. -/
theorem eq_loop {α : Type} (l0 : Nat → List α → List α → Int → Option Bool) (eq : α → α → Option Bool) (z : α) (hr : ∀ a, eq a a = some true)
    (step : ∀ k xs ys i, l0 (k + 1) xs ys i = if i < (xs.length : Int) then (if 0 ≤ i then (if i < (ys.length : Int) then ((eq (xs.getD i.toNat z) (ys.getD i.toNat z)).bind fun t => if t = true then l0 k xs ys (wrap64 (i + 1)) else some false) else none) else none) else some true) :
    ∀ (d k i : Nat) (xs : List α), xs.length = i + d → d < k → xs.length ≤ 4611686018427387904 → l0 k xs xs (i : Int) = some true := by
  intro d
  induction d with
  | zero =>
    intro k i xs h1 hk _
    obtain ⟨k, rfl⟩ : ∃ m, k = m + 1 := ⟨k - 1, by omega⟩
    rw [step, if_neg (by omega)]
  | succ d ih =>
    intro k i xs h1 hk hm
    obtain ⟨k, rfl⟩ : ∃ m, k = m + 1 := ⟨k - 1, by omega⟩
    rw [step, if_pos (by omega), if_pos (by omega), if_pos (by omega), hr, Option.bind_some, if_pos rfl]
    have w : wrap64 ((i : Int) + 1) = ((i + 1 : Nat) : Int) := wrap64_id (by omega) (by omega)
    rw [w, ih k (i + 1) xs (by omega) (by omega) hm]
theorem eq_all {α : Type} (l0 : Nat → List α → List α → Int → Option Bool) (eq : α → α → Option Bool) (z : α) (hr : ∀ a, eq a a = some true)
    (step : ∀ k xs ys i, l0 (k + 1) xs ys i = if i < (xs.length : Int) then (if 0 ≤ i then (if i < (ys.length : Int) then ((eq (xs.getD i.toNat z) (ys.getD i.toNat z)).bind fun t => if t = true then l0 k xs ys (wrap64 (i + 1)) else some false) else none) else none) else some true)
    (k : Nat) (xs : List α) (hk : xs.length < k) (hm : xs.length ≤ 4611686018427387904) : l0 k xs xs 0 = some true := by
  have h := eq_loop l0 eq z hr step xs.length k 0 xs (by omega) hk hm
  simpa using h
theorem getD_at {α : Type} {xs : List α} {i : Nat} (z : α) (h : i < xs.length) : xs.getD ((i : Int)).toNat z = xs[i] := by
  rw [Int.toNat_natCast, List.getD_eq_getElem?_getD, List.getElem?_eq_getElem h, Option.getD_some]

theorem toStringS_ok (k : Nat) (l : List ByteArray) (hk : l.length < k) (hl : l.length ≤ 1048576) : laws_toStringS.f k l = some l := by
  unfold laws_toStringS.f
  rw [if_pos (by omega), if_pos (by omega)]
  have h := to_all laws_toStringS.l0 (fun x : ByteArray => x) ByteArray.empty (⟨#[]⟩ : ByteArray) (fun k xs acc i => by simp only [laws_toStringS.l0]; rfl) k l hk (by omega)
  simpa using h
theorem szStr_l0 : ∀ (d k : Nat) (xs : List ByteArray) (x : Int) (i : Nat), xs.length = i + d → d < k → xs.length ≤ 9223372036854775806 → (∀ z ∈ xs, z.size ≤ 9223372036854775807) → 0 ≤ x → x ≤ 1048576 → ∃ t, laws_szStringS.l0 k xs x (i : Int) = some t := by
  intro d
  induction d with
  | zero =>
    intro k xs x i h hk _ _ _ _
    obtain ⟨k, rfl⟩ : ∃ q, k = q + 1 := ⟨k - 1, by omega⟩
    rw [laws_szStringS.l0, if_neg (by omega)]
    exact ⟨_, rfl⟩
  | succ d ih =>
    intro k xs x i h hk hb hz h0 h1
    obtain ⟨k, rfl⟩ : ∃ q, k = q + 1 := ⟨k - 1, by omega⟩
    rw [laws_szStringS.l0, if_pos (by omega), if_pos (by omega)]
    have hsz : (rdOf ByteArray.empty xs (i : Int)).size ≤ 9223372036854775807 := by
      unfold rdOf
      rw [getD_at _ (by omega)]
      exact hz _ (List.getElem_mem _)
    have w : wrap64 (x - ((rdOf ByteArray.empty xs (i : Int)).size : Int)) = x - ((rdOf ByteArray.empty xs (i : Int)).size : Int) := wrap64_id (by omega) (by omega)
    have w2 : wrap64 ((i : Int) + 1) = ((i + 1 : Nat) : Int) := wrap64_id (by omega) (by omega)
    rw [w, w2]
    by_cases hn : x - ((rdOf ByteArray.empty xs (i : Int)).size : Int) < 0
    · rw [if_pos hn]; exact ⟨_, rfl⟩
    · rw [if_neg hn]
      exact ih k xs _ (i + 1) (by omega) (by omega) hb hz (by omega) (by omega)
theorem szStringS_ok (l : List ByteArray) (hl : l.length ≤ 9223372036854775807) (hz : ∀ z ∈ l, z.size ≤ 9223372036854775807) (k : Nat) (hk : 1048577 < k) :
    ∃ t, laws_szStringS.f k l 1048576 = some t ∧ (0 ≤ t → l.length ≤ 1048576) := by
  unfold laws_szStringS.f
  have w : wrap64 (1048576 - (l.length : Int)) = 1048576 - (l.length : Int) := wrap64_id (by omega) (by omega)
  rw [w]
  by_cases h : 1048576 - (l.length : Int) < 0
  · rw [if_pos h]; exact ⟨_, rfl, fun h => absurd h (by omega)⟩
  · rw [if_neg h]
    obtain ⟨t, e⟩ := szStr_l0 l.length k l (1048576 - (l.length : Int)) 0 (by omega) (by omega) (by omega) hz (by omega) (by omega)
    exact ⟨t, e, fun _ => by omega⟩

theorem eqStringS_refl (k : Nat) (l : List ByteArray) (hk : l.length < k) (hl : l.length ≤ 1048576) : laws_eqStringS.f k l l = some true := by
  unfold laws_eqStringS.f
  rw [if_pos rfl]
  exact eq_all laws_eqStringS.l0 (fun a b => some (decide (a.toList = b.toList))) ByteArray.empty (fun a => by simp) (fun k xs ys i => by simp only [laws_eqStringS.l0, Option.bind_some, decide_eq_true_eq]; rfl) k l hk (by omega)

theorem mark_l0 : ∀ (f k : Nat) (n : Int) (t : ByteArray), 0 ≤ n → n < 10 ^ f → f < k → t.size + f ≤ 1000 → ∃ r, laws_markText.l0 k n t = some r := by
  intro f
  induction f with
  | zero =>
    intro k n t h0 h1 hk ht
    obtain ⟨k, rfl⟩ : ∃ m, k = m + 1 := ⟨k - 1, by omega⟩
    rw [laws_markText.l0, if_neg (by simp at h1; omega), if_pos (by omega)]
    exact ⟨_, rfl⟩
  | succ f ih =>
    intro k n t h0 h1 hk ht
    obtain ⟨k, rfl⟩ : ∃ m, k = m + 1 := ⟨k - 1, by omega⟩
    rw [laws_markText.l0]
    by_cases h : n > 0
    · rw [if_pos h]
      simp only [Option.bind_some]
      have hs : ∀ x : Int, (strOfNums [x]).size = 1 := fun x => by simp [strOfNums, ByteArray.size]
      rw [hs, if_pos (by omega)]
      have e : Int.tdiv n 10 = n / 10 := Int.tdiv_eq_ediv_of_nonneg h0
      have hp : n / 10 < 10 ^ f := by
        rw [Int.pow_succ] at h1
        generalize (10 : Int) ^ f = p at *
        omega
      have hb : wrap64 (n / 10) = n / 10 ∨ n / 10 > 9223372036854775807 := by
        by_cases hq : n / 10 ≤ 9223372036854775807
        · exact .inl (wrap64_id (by omega) hq)
        · exact .inr (by omega)
      rw [e]
      have hw : 0 ≤ wrap64 (n / 10) ∧ wrap64 (n / 10) < 10 ^ f ∨ wrap64 (n / 10) ≤ 0 := by
        rcases hb with hb | hb
        · rw [hb]; exact .inl ⟨by omega, hp⟩
        · rcases Int.lt_or_le 0 (wrap64 (n / 10)) with h2 | h2
          · refine .inl ⟨by omega, ?_⟩
            have : wrap64 (n / 10) ≤ 9223372036854775807 := by unfold wrap64; omega
            omega
          · exact .inr h2
      rcases hw with ⟨g0, g1⟩ | g
      · exact ih k _ _ g0 g1 (by omega) (by rw [ByteArray.size_append, hs]; omega)
      · obtain ⟨k, rfl⟩ : ∃ m, k = m + 1 := ⟨k - 1, by omega⟩
        rw [laws_markText.l0, if_neg (by omega), if_pos (by rw [ByteArray.size_append, hs]; omega)]
        exact ⟨_, rfl⟩
    · rw [if_neg h, if_pos (by omega)]
      exact ⟨_, rfl⟩
def mt (n : Int) : ByteArray := (laws_markText.f 20 n).getD ⟨#[]⟩
theorem mt_ok (n : Int) (h0 : 0 ≤ n) (h1 : n < 1000000000000000000) (k : Nat) (hk : 20 ≤ k) : laws_markText.f k n = some (mt n) := by
  have hex : ∃ r, laws_markText.f 20 n = some r := by
    unfold laws_markText.f
    by_cases h : n ≤ 0
    · rw [if_pos h]; exact ⟨_, rfl⟩
    · rw [if_neg h]
      exact mark_l0 18 20 n _ h0 (by have e : (10 : Int) ^ 18 = 1000000000000000000 := by decide
                                     rw [e]; exact h1) (by omega) (by decide)
  obtain ⟨r, hr⟩ := hex
  have e : mt n = r := by unfold mt; rw [hr]; rfl
  rw [e]
  exact at_rounds (laws_markText.mono n) hk hr

def mts (m : Int) (d : Nat) : List ByteArray := (List.range d).map (fun (j : Nat) => mt (m + (j : Int)))
theorem mts_succ (m : Int) (d : Nat) : mts m (d + 1) = mt m :: mts (m + 1) d := by
  unfold mts
  rw [List.range_succ_eq_map, List.map_cons, List.map_map]
  congr 1
  · simp
  · apply List.map_congr_left
    intro j _
    simp only [Function.comp_apply]
    congr 1
    omega
theorem markS_l0 : ∀ (d k i : Nat) (m : Int) (xs : List ByteArray), xs.length = i + d → d + 20 < k → 0 ≤ m → m + d ≤ 1000000000 → xs.length ≤ 100000000 → laws_markStringS.l0 k xs m (i : Int) = some (m + d, xs.take i ++ mts m d) := by
  intro d
  induction d with
  | zero =>
    intro k i m xs h1 hk h0 hm _
    obtain ⟨k, rfl⟩ : ∃ q, k = q + 1 := ⟨k - 1, by omega⟩
    rw [laws_markStringS.l0, if_neg (by omega), List.take_of_length_le (by omega)]
    simp [mts]
  | succ d ih =>
    intro k i m xs h1 hk h0 hm hx
    obtain ⟨k, rfl⟩ : ∃ q, k = q + 1 := ⟨k - 1, by omega⟩
    have w : wrap64 ((i : Int) + 1) = ((i + 1 : Nat) : Int) := wrap64_id (by omega) (by omega)
    have w2 : wrap64 (m + 1) = m + 1 := wrap64_id (by omega) (by omega)
    rw [laws_markStringS.l0, if_pos (by omega), mt_ok m h0 (by omega) k (by omega), Option.bind_some, if_pos (by omega), w, w2]
    rw [ih k (i + 1) (m + 1) _ (by simp; omega) (by omega) (by omega) (by omega) (by simpa using hx), mts_succ]
    have e : (xs.set ((i : Int)).toNat (mt m)).take (i + 1) = xs.take i ++ [mt m] := by
      rw [Int.toNat_natCast, List.take_set, List.take_succ_eq_append_getElem (by omega), List.set_append_right _ _ (by simp; omega)]
      simp [List.length_take, Nat.min_eq_left (by omega : i ≤ xs.length)]
    rw [e]
    simp only [Option.some.injEq, Prod.mk.injEq, List.append_assoc, List.cons_append, List.nil_append, and_true]
    omega
theorem markS_ok (k : Nat) (xs : List ByteArray) (hk : xs.length + 20 < k) (hm : xs.length ≤ 10000000) : laws_markStringS.f k xs 1 = some (1 + (xs.length : Int), mts 1 xs.length) := by
  unfold laws_markStringS.f
  have h := markS_l0 xs.length k 0 1 xs (by omega) hk (by omega) (by omega) (by omega)
  simpa using h
theorem eqS_refl (k : Nat) (xs : List ByteArray) (hk : xs.length < k) (hm : xs.length ≤ 10000000) : laws_eqStringS.f k xs xs = some true := by
  unfold laws_eqStringS.f
  rw [if_pos rfl]
  refine eq_all laws_eqStringS.l0 (fun a b => if a.toList = b.toList then some true else some false) ByteArray.empty (fun a => by simp) (fun k xs ys i => ?_) k xs hk (by omega)
  rw [laws_eqStringS.l0]
  show _ = if i < (xs.length : Int) then (if 0 ≤ i then (if i < (ys.length : Int) then ((if (rdOf ByteArray.empty xs i).toList = (rdOf ByteArray.empty ys i).toList then some true else some false).bind fun t => if t = true then laws_eqStringS.l0 k xs ys (wrap64 (i + 1)) else some false) else none) else none) else some true
  by_cases hc : (rdOf ByteArray.empty xs i).toList = (rdOf ByteArray.empty ys i).toList
  · rw [if_pos hc, if_pos hc]; rfl
  · rw [if_neg hc, if_neg hc]; rfl

def pfin (a1 a2 a3 : Int) (l : List ByteArray) : Bool := decide (0 < a1) || (decide (a2 = 0) && (decide (a3 = 0) && decide ((l.length : Int) = 0)))
theorem sp_l0 (a0 a1 a2 a3 : Int) (l : List ByteArray) (hl : l.length ≤ 60) : ∀ (d k i : Nat), l.length = i + d → d < k →
    spec_PipeRight.l0 k (i : Int) a0 a1 a2 a3 l = some (!((l.drop i).any impl_PipeRight.long) && pfin a1 a2 a3 l) := by
  intro d
  induction d with
  | zero =>
    intro k i h hk
    obtain ⟨k, rfl⟩ : ∃ q, k = q + 1 := ⟨k - 1, by omega⟩
    rw [spec_PipeRight.l0, if_neg (by omega), List.drop_eq_nil_of_le (by omega)]
    unfold pfin
    by_cases h1 : 0 < a1
    · rw [if_pos (by omega), decide_eq_true h1]; rfl
    · rw [if_neg (by omega), decide_eq_false h1]
      by_cases h2 : a2 = 0
      · rw [if_pos h2, decide_eq_true h2]
        by_cases h3 : a3 = 0
        · rw [if_pos h3, decide_eq_true h3]; rfl
        · rw [if_neg h3, decide_eq_false h3]; rfl
      · rw [if_neg h2, decide_eq_false h2]; rfl
  | succ d ih =>
    intro k i h hk
    obtain ⟨k, rfl⟩ : ∃ q, k = q + 1 := ⟨k - 1, by omega⟩
    have hi : i < l.length := by omega
    have w : wrap64 ((i : Int) + 1) = ((i + 1 : Nat) : Int) := wrap64_id (by omega) (by omega)
    have e : rdOf ByteArray.empty l (i : Int) = l[i] := by unfold rdOf; rw [getD_at _ hi]
    rw [spec_PipeRight.l0, if_pos (by omega), if_pos (by omega), e, w, List.drop_eq_getElem_cons hi, List.any_cons]
    by_cases hq : (l[i].size : Int) > 60
    · have : impl_PipeRight.long l[i] = true := decide_eq_true hq
      rw [if_pos hq, this]; rfl
    · have : impl_PipeRight.long l[i] = false := decide_eq_false hq
      rw [if_neg hq, this, Bool.false_or, ih k (i + 1) (by omega) (by omega)]
theorem sp_time (a : Int) : spec_l05Time.f a = some (impl_PipeRight.t a) := by
  unfold spec_l05Time.f spec_l02Is.f impl_PipeRight.t
  by_cases h : 0 ≤ a
  · rw [if_pos h, decide_eq_true h]; rfl
  · rw [if_neg (by omega), decide_eq_false h]; rfl
theorem sp_epoch (a : Int) : spec_l02Is.f a 1 1000000 = some (impl_PipeRight.e a) := by
  unfold spec_l02Is.f impl_PipeRight.e
  by_cases h : 1 ≤ a
  · rw [if_pos h, decide_eq_true h]; rfl
  · rw [if_neg (by omega), decide_eq_false h]; rfl
theorem sp_j0t (k : Nat) (a0 a1 a2 a3 : Int) (l : List ByteArray) : spec_PipeRight.j0 (k + 1) true a0 a1 a2 a3 l = some false := by
  rw [spec_PipeRight.j0, if_pos rfl]
theorem sp_right (k : Nat) (hk : 70 ≤ k) (a0 a1 a2 a3 : Int) (l : List ByteArray) : spec_PipeRight.f k a0 a1 a2 a3 l = impl_PipeRight.f a0 a1 a2 a3 l := by
  obtain ⟨k, rfl⟩ : ∃ q, k = q + 1 := ⟨k - 1, by omega⟩
  unfold spec_PipeRight.f impl_PipeRight.f
  simp only [sp_time, sp_epoch, Option.bind_some, sp_j0t]
  cases impl_PipeRight.e a0 with
  | false => rfl
  | true =>
    cases impl_PipeRight.t a1 with
    | false => rfl
    | true =>
      cases h2 : impl_PipeRight.t a2 with
      | false => rfl
      | true =>
        cases impl_PipeRight.t a3 with
        | false => rfl
        | true =>
          by_cases hn : 60 < (l.length : Int)
          · rw [decide_eq_true hn]
            simp only [if_true]
            rw [if_pos hn]
            rfl
          · rw [decide_eq_false hn]
            simp only [if_true]
            rw [if_neg hn]
            unfold impl_PipeRight.t at h2
            simp only [Bool.and_eq_true, decide_eq_true_eq] at h2
            have w : wrap64 (a2 + (l.length : Int)) = a2 + (l.length : Int) := wrap64_id (by omega) (by omega)
            rw [w]
            by_cases hm : 1000000 < a2 + (l.length : Int)
            · have ht : impl_PipeRight.t (a2 + (l.length : Int)) = false := by
                unfold impl_PipeRight.t; rw [decide_eq_false (show ¬ a2 + (l.length : Int) ≤ 1000000 by omega), Bool.and_false]
              rw [ht, decide_eq_true hm]
              exact sp_j0t k a0 a1 a2 a3 l
            · have ht : impl_PipeRight.t (a2 + (l.length : Int)) = true := by
                unfold impl_PipeRight.t; rw [decide_eq_true (show a2 + (l.length : Int) ≤ 1000000 by omega), decide_eq_true (show 0 ≤ a2 + (l.length : Int) by omega)]; rfl
              rw [ht, decide_eq_false hm, Bool.not_true, spec_PipeRight.j0, if_neg (by simp)]
              have := sp_l0 a0 a1 a2 a3 l (by omega) l.length k 0 (by omega) (by omega)
              rw [List.drop_zero] at this
              rw [show (0 : Int) = ((0 : Nat) : Int) from rfl, this]
              unfold pfin
              simp

theorem heldS_l0 : ∀ (d k i : Nat) (m : Int) (ys : List ByteArray) , d + 20 < k → 0 ≤ m → m + d ≤ 1000000000 → ys.length = i → i + d ≤ 100000000 → laws_heldStringS.l0 k (ys ++ mts m d) m (i : Int) = some (m + d) := by
  intro d
  induction d with
  | zero =>
    intro k i m ys hk h0 hm hl _
    obtain ⟨k, rfl⟩ : ∃ q, k = q + 1 := ⟨k - 1, by omega⟩
    rw [laws_heldStringS.l0, if_neg (by simp [mts]; omega)]
    simp
  | succ d ih =>
    intro k i m ys hk h0 hm hl hx
    obtain ⟨k, rfl⟩ : ∃ q, k = q + 1 := ⟨k - 1, by omega⟩
    have w : wrap64 ((i : Int) + 1) = ((i + 1 : Nat) : Int) := wrap64_id (by omega) (by omega)
    have w2 : wrap64 (m + 1) = m + 1 := wrap64_id (by omega) (by omega)
    rw [laws_heldStringS.l0, if_pos (by simp [mts]; omega), if_pos (by omega), mt_ok m h0 (by omega) k (by omega), Option.bind_some, w, w2, mts_succ]
    have e : rdOf ByteArray.empty (ys ++ mt m :: mts (m + 1) d) (i : Int) = mt m := by
      unfold rdOf
      rw [getD_at _ (by simp; omega)]
      simp [← hl]
    rw [if_pos (by rw [e])]
    have e2 : ys ++ mt m :: mts (m + 1) d = (ys ++ [mt m]) ++ mts (m + 1) d := by simp
    rw [e2, ih k (i + 1) (m + 1) (ys ++ [mt m]) (by omega) (by omega) (by omega) (by simp; omega) (by omega)]
    congr 1
    omega
theorem heldS_ok (k n : Nat) (hk : n + 20 < k) (hm : n ≤ 10000000) : laws_heldStringS.f k (mts 1 n) 1 = some (1 + (n : Int)) := by
  unfold laws_heldStringS.f
  have h := heldS_l0 n k 0 1 [] hk (by omega) (by omega) rfl (by omega)
  simpa using h

theorem markS_at (k : Nat) (m : Int) (xs : List ByteArray) (hk : xs.length + 20 < k) (hm : xs.length ≤ 10000) (h0 : 0 ≤ m) (h1 : m ≤ 100000) : laws_markStringS.f k xs m = some (m + (xs.length : Int), mts m xs.length) := by
  unfold laws_markStringS.f
  have h := markS_l0 xs.length k 0 m xs (by omega) hk (by omega) (by omega) (by omega)
  simpa using h
theorem heldS_at (k : Nat) (m : Int) (n : Nat) (hk : n + 20 < k) (hm : n ≤ 10000) (h0 : 0 ≤ m) (h1 : m ≤ 100000) : laws_heldStringS.f k (mts m n) m = some (m + (n : Int)) := by
  unfold laws_heldStringS.f
  have h := heldS_l0 n k 0 m [] hk (by omega) (by omega) rfl (by omega)
  simpa using h
theorem eqPO' (k : Nat) (hk : 200 < k) (a b c d : Int) (l t : List ByteArray) (e : Bool) (f : Int) (hl : l.length ≤ 100) (ht : t.length ≤ 100) : laws_eqPipeOut.f k a b c d l t e f a b c d l t e f = some true := by
  unfold laws_eqPipeOut.f laws_eqPipe.f
  rw [if_pos rfl, if_pos rfl, if_pos rfl, if_pos rfl, eqS_refl k l (by omega) (by omega)]
  simp only [Option.bind_some, if_true]
  rw [eqS_refl k t (by omega) (by omega)]
  simp only [Option.bind_some, if_true]
  rw [if_neg (by simp)]
theorem markPO' (k : Nat) (hk : 200 < k) (a b c d : Int) (l t : List ByteArray) (e : Bool) (f : Int) (hl : l.length ≤ 100) (ht : t.length ≤ 100) : laws_markPipeOut.f k a b c d l t e f 1 = some (1 + (l.length : Int) + (t.length : Int), mts 1 l.length, mts (1 + (l.length : Int)) t.length) := by
  unfold laws_markPipeOut.f laws_markPipe.f
  rw [markS_at k 1 l (by omega) (by omega) (by omega) (by omega)]
  simp only [Option.bind_some]
  rw [markS_at k _ t (by omega) (by omega) (by omega) (by omega)]
  rfl
theorem heldPO' (k : Nat) (hk : 200 < k) (a b c d : Int) (n m : Nat) (e : Bool) (f : Int) (hl : n ≤ 100) (ht : m ≤ 100) : laws_heldPipeOut.f k a b c d (mts 1 n) (mts (1 + (n : Int)) m) e f 1 = some (1 + (n : Int) + (m : Int)) := by
  unfold laws_heldPipeOut.f laws_heldPipe.f
  rw [heldS_at k 1 n (by omega) (by omega) (by omega) (by omega), Option.bind_some, if_neg (by omega), Option.bind_some, if_neg (by omega), heldS_at k _ m (by omega) (by omega) (by omega) (by omega), Option.bind_some, if_neg (by omega)]

theorem clone_ok (l : List ByteArray) (h : l.length ≤ 100) : slices_Clone_string_string.f l = some l := by
  unfold slices_Clone_string_string.f; rw [if_pos (by omega)]
theorem copy_ok (a0 a1 a2 a3 : Int) (l : List ByteArray) (h : l.length ≤ 100) : spec_l05Copy.f a0 a1 a2 a3 l = some (a0, a1, a2, a3, l) := by
  unfold spec_l05Copy.f; rw [Option.bind_some, if_pos (by simp only [List.length_nil]; omega), List.nil_append]
theorem right_facts {a0 a1 a2 a3 : Int} {l : List ByteArray} (h : impl_PipeRight.f a0 a1 a2 a3 l = some true) : (1 ≤ a0 ∧ a0 ≤ 1000000) ∧ (0 ≤ a1 ∧ a1 ≤ 1000000) ∧ (0 ≤ a2 ∧ a2 ≤ 1000000) ∧ (0 ≤ a3 ∧ a3 ≤ 1000000) ∧ l.length ≤ 60 ∧ a2 + (l.length : Int) ≤ 1000000 ∧ wrap64 (a2 + (l.length : Int)) = a2 + (l.length : Int) := by
  unfold impl_PipeRight.f impl_PipeRight.e impl_PipeRight.t at h
  simp only [Option.some.injEq, Bool.and_eq_true, Bool.not_eq_true', decide_eq_false_iff_not, decide_eq_true_eq] at h
  obtain ⟨h0, h1, h2, h3, h4, h5, _⟩ := h
  have w : wrap64 (a2 + (l.length : Int)) = a2 + (l.length : Int) := wrap64_id (by omega) (by omega)
  rw [w] at h5
  exact ⟨h0, h1, h2, h3, by omega, by omega, w⟩

theorem s_is (a b c : Int) : spec_l02Is.f a b c = some (decide (b ≤ a ∧ a ≤ c)) := by
  unfold spec_l02Is.f; by_cases h : a ≥ b
  · rw [if_pos h]; by_cases h2 : a ≤ c <;> simp [h, h2]
  · rw [if_neg h]; congr 1; symm; apply decide_eq_false; omega

theorem i_in (a b c : Int) : impl_in.f a b c = some (decide (b ≤ a ∧ a ≤ c)) := by
  unfold impl_in.f; by_cases h : b ≤ a
  · rw [if_pos h]; by_cases h2 : a ≤ c <;> simp [h, h2]
  · rw [if_neg h]; congr 1; symm; apply decide_eq_false; omega


def packetOk (a b c d : Int) (t : ByteArray) : Bool :=
  decide (1 ≤ a ∧ a ≤ 1000000) && decide (0 ≤ b ∧ b ≤ 1000000) && decide (0 ≤ c ∧ c ≤ 1000000) && decide (0 ≤ d ∧ d ≤ 1000000) && decide ((t.size : Int) ≤ 60) && (decide (c > 0) || (t.toList == ([] : List UInt8)))
theorem s_packetRight (a b c d : Int) (t : ByteArray) : spec_PacketRight.f a b c d t = some (packetOk a b c d t) := by
  unfold spec_PacketRight.f spec_l05Time.f packetOk
  simp only [s_is, Option.bind_some]
  by_cases h1 : 1 ≤ a ∧ a ≤ 1000000
  · by_cases h2 : 0 ≤ b ∧ b ≤ 1000000
    · by_cases h3 : 0 ≤ c ∧ c ≤ 1000000
      · by_cases h4 : 0 ≤ d ∧ d ≤ 1000000
        · by_cases h5 : (t.size : Int) ≤ 60
          · by_cases h6 : c > 0 <;> simp [h1, h2, h3, h4, h5, h6]
          · simp [h1, h2, h3, h4, h5]
        · simp [h1, h2, h3, h4]
      · simp [h1, h2, h3]
    · simp [h1, h2]
  · simp [h1]
theorem i_packetRight (a b c d : Int) (t : ByteArray) : impl_PacketRight.f a b c d t = some (packetOk a b c d t) := by
  unfold impl_PacketRight.f impl_isEpoch.f impl_isTime.f packetOk
  simp only [i_in, Option.bind_some]
  by_cases h1 : 1 ≤ a ∧ a ≤ 1000000
  · by_cases h2 : 0 ≤ b ∧ b ≤ 1000000
    · by_cases h3 : 0 ≤ c ∧ c ≤ 1000000
      · by_cases h4 : 0 ≤ d ∧ d ≤ 1000000
        · by_cases h5 : (t.size : Int) ≤ 60
          · by_cases h6 : c > 0 <;> simp [h1, h2, h3, h4, h5, h6]
          · simp [h1, h2, h3, h4, h5]
        · simp [h1, h2, h3, h4]
      · simp [h1, h2, h3]
    · simp [h1, h2]
  · simp [h1]

--@use strings_conv
--@use strings_eq
--@use strings_mark
--@use piperight_s
--@use pipeout
--@use pipecopy
--@use packetright
theorem ack_both {b x3 : Int} {l : List ByteArray} (hb : 0 ≤ b ∧ b ≤ 1000000) (hx : 0 ≤ x3 ∧ x3 ≤ 1000000) (hl : l.length ≤ 60) :
    ∃ b' l', l'.length ≤ 60 ∧ impl_PipeHear.ack b l x3 = some (b', l') ∧ spec_l05Hear.ack b l x3 = some (b', l') := by
  have w1 : wrap64 (x3 - b) = x3 - b := wrap64_id (by omega) (by omega)
  have w2 : wrap64 (b + (l.length : Int)) = b + (l.length : Int) := wrap64_id (by omega) (by omega)
  unfold impl_PipeHear.ack spec_l05Hear.ack
  rw [w1, w2]
  by_cases h : 1 ≤ x3 - b ∧ x3 - b ≤ (l.length : Int)
  · refine ⟨x3, l.drop (x3 - b).toNat, by rw [List.length_drop]; omega, ?_, ?_⟩
    · rw [if_pos h, clone_ok _ (by rw [List.length_drop]; omega)]; rfl
    · rw [if_pos (by omega), if_pos (by omega), if_pos ⟨by omega, by omega, by omega⟩]
  · refine ⟨b, l, hl, by rw [if_neg h], ?_⟩
    by_cases h1 : x3 > b
    · rw [if_pos h1, if_neg (by omega)]
    · rw [if_neg h1]
theorem go_both {e p b n : Int} {l : List ByteArray} {fr : Bool} {x1 x2 x3 : Int} {x4 : ByteArray} (hb : 0 ≤ b ∧ b ≤ 1000000) (hx : 0 ≤ x3 ∧ x3 ≤ 1000000) (hl : l.length ≤ 60) :
    ∃ e' p' b' n' l' t f, List.length l' ≤ 60 ∧ List.length t ≤ 1 ∧ impl_PipeHear.go e p b n l fr x1 x2 x3 x4 = some (e', p', b', n', l', t, f) ∧ spec_l05Hear.go e e p b n l fr x1 x2 x3 x4 = some (e', p', b', n', l', t, f, 0) := by
  obtain ⟨b', l', h1, h2, h3⟩ := ack_both hb hx hl
  unfold impl_PipeHear.go spec_l05Hear.go
  by_cases c : x1 = e
  · rw [if_pos c, if_pos c, h2, h3, Option.bind_some, Option.bind_some]
    by_cases d : x2 = wrap64 (n + 1)
    · rw [if_pos d, if_pos d]; exact ⟨_, _, _, _, _, _, _, h1, by simp, rfl, rfl⟩
    · rw [if_neg d, if_neg d]; exact ⟨_, _, _, _, _, _, _, h1, by simp, rfl, rfl⟩
  · rw [if_neg c, if_neg c]; exact ⟨_, _, _, _, _, _, _, hl, by simp, rfl, rfl⟩
theorem packet_facts {a b c d : Int} {t : ByteArray} (h : packetOk a b c d t = true) : 0 ≤ d ∧ d ≤ 1000000 := by
  unfold packetOk at h
  simp only [Bool.and_eq_true, decide_eq_true_eq] at h
  exact h.1.1.2
theorem hear_both (a0 a1 a2 a3 : Int) (l : List ByteArray) (x0 x1 x2 x3 : Int) (x4 : ByteArray) : ∃ r0 r1 r2 r3 l' t f c, List.length l' ≤ 60 ∧ List.length t ≤ 1 ∧ impl_PipeHear.f a0 a1 a2 a3 l x0 x1 x2 x3 x4 = some (r0, r1, r2, r3, l', t, f, c) ∧ ∀ k, 90 ≤ k → spec_PipeHear.f k a0 a1 a2 a3 l x0 x1 x2 x3 x4 = some (r0, r1, r2, r3, l', t, f, c) := by
  obtain ⟨b, hb⟩ : ∃ b, impl_PipeRight.f a0 a1 a2 a3 l = some b := ⟨_, rfl⟩
  unfold impl_PipeHear.f
  rw [hb, Option.bind_some]
  have bad : ∀ k, spec_PipeHear.j0 (k + 1) true a0 a1 a2 a3 l x0 x1 x2 x3 x4 = some (0, 0, 0, 0, [], [], false, 1) := by
    intro k; rw [spec_PipeHear.j0, if_pos rfl]; rfl
  cases b with
  | false =>
    refine ⟨0, 0, 0, 0, [], [], false, 1, by simp, by simp, by rw [if_pos rfl], fun k hk => ?_⟩
    obtain ⟨k, rfl⟩ : ∃ q, k = q + 1 := ⟨k - 1, by omega⟩
    unfold spec_PipeHear.f
    rw [sp_right (k + 1) (by omega), hb, Option.bind_some, if_neg (by decide)]
    exact bad k
  | true =>
    obtain ⟨h0, h1, h2, h3, hl, hs, w⟩ := right_facts hb
    rw [if_neg (by decide), i_packetRight, Option.bind_some]
    obtain ⟨q, hq⟩ : ∃ q, packetOk x0 x1 x2 x3 x4 = q := ⟨_, rfl⟩
    have es : ∀ k, 90 ≤ k + 1 → spec_PipeHear.f (k + 1) a0 a1 a2 a3 l x0 x1 x2 x3 x4 = spec_PipeHear.j0 (k + 1) (!q) a0 a1 a2 a3 l x0 x1 x2 x3 x4 := by
      intro k hk
      unfold spec_PipeHear.f
      rw [sp_right (k + 1) (by omega), hb, Option.bind_some, if_pos rfl, s_packetRight, Option.bind_some, hq]
    cases q with
    | false =>
      refine ⟨0, 0, 0, 0, [], [], false, 1, by simp, by simp, by rw [if_pos hq], fun k hk => ?_⟩
      obtain ⟨k, rfl⟩ : ∃ q, k = q + 1 := ⟨k - 1, by omega⟩
      rw [es k hk]
      exact bad k
    | true =>
      have hx := packet_facts hq
      have cp : impl_Pipe_copied.f a0 a1 a2 a3 l = some (a0, a1, a2, a3, l) := by unfold impl_Pipe_copied.f; rw [clone_ok l (by omega)]; rfl
      rw [if_neg (by rw [hq]; decide), cp, Option.bind_some]
      dsimp only
      have es2 : ∀ k, 90 ≤ k + 1 → spec_PipeHear.f (k + 1) a0 a1 a2 a3 l x0 x1 x2 x3 x4 = spec_l05Hear.f a0 a1 a2 a3 l x0 x1 x2 x3 x4 := by
        intro k hk
        rw [es k hk, spec_PipeHear.j0, if_neg (by decide)]
        generalize spec_l05Hear.f a0 a1 a2 a3 l x0 x1 x2 x3 x4 = z
        cases z <;> rfl
      unfold impl_PipeHear.hf
      have key : ∃ e' p' b' n' l' t f, List.length l' ≤ 60 ∧ List.length t ≤ 1 ∧ (if x0 < a1 then some (a0, a1, a2, a3, l, [], false) else if a1 < x0 then impl_PipeHear.go a0 x0 0 0 [] true x1 x2 x3 x4 else impl_PipeHear.go a0 a1 a2 a3 l false x1 x2 x3 x4) = some (e', p', b', n', l', t, f) ∧ spec_l05Hear.f a0 a1 a2 a3 l x0 x1 x2 x3 x4 = some (e', p', b', n', l', t, f, 0) := by
        unfold spec_l05Hear.f
        rw [copy_ok _ _ _ _ l (by omega), Option.bind_some]
        dsimp only
        by_cases c1 : x0 < a1
        · rw [if_pos c1, if_pos c1]; exact ⟨_, _, _, _, _, _, _, hl, by simp, rfl, rfl⟩
        · rw [if_neg c1, if_neg c1]
          by_cases c2 : a1 < x0
          · rw [if_pos c2, if_pos c2]; exact go_both (by omega) hx (by simp)
          · rw [if_neg c2, if_neg c2]; exact go_both h2 hx hl
      obtain ⟨e', p', b', n', l', t, f, q1, q2, q3, q4⟩ := key
      refine ⟨e', p', b', n', l', t, f, 0, q1, q2, by rw [q3]; rfl, fun k hk => ?_⟩
      obtain ⟨k, rfl⟩ : ∃ q, k = q + 1 := ⟨k - 1, by omega⟩
      rw [es2 k hk, q4]
theorem FnExactPipeHear : laws_FnExactPipeHear.Pure := by
  intro a0 a1 a2 a3 l x0 x1 x2 x3 x4 _ _ _ _ hl _ _ _ _ _
  refine ⟨1048698 + 1 + 1, ?_⟩
  obtain ⟨z, e, hz⟩ := szStringS_ok l hl.1 hl.2 (1048698 + 1 + 1) (by omega)
  obtain ⟨r0, r1, r2, r3, l', t, f, c, hlen', ht, hi, hs⟩ := hear_both a0 a1 a2 a3 l x0 x1 x2 x3 x4
  unfold laws_FnExactPipeHear.f laws_szPipe.f
  rw [e, Option.bind_some]
  by_cases hn : z < 0
  · rw [if_pos hn, Option.bind_some, if_pos (by omega)]
  · have hlen := hz (by omega)
    rw [if_neg hn, Option.bind_some, if_neg hn]
    unfold laws_szPacket.f laws_toPacket.f
    by_cases hb : wrap64 (z - (x4.size : Int)) < 0
    · rw [if_pos hb, Option.bind_some, if_pos (by omega)]
    rw [if_neg hb, Option.bind_some, if_neg hb]
    have tp : ∀ k, 1048690 ≤ k → laws_toPipe.f k a0 a1 a2 a3 l = some (a0, a1, a2, a3, l) := by
      intro k hk; unfold laws_toPipe.f; rw [toStringS_ok k l (by omega) hlen]; rfl
    rw [tp (1048698 + 1 + 1) (by omega), Option.bind_some, Option.bind_some]
    dsimp only
    rw [hs (1048698 + 1 + 1) (by omega), Option.bind_some, hi, Option.bind_some]
    dsimp only
    rw [eqPO' (1048698 + 1 + 1) (by omega) _ _ _ _ _ _ _ _ (by omega) (by omega), Option.bind_some, if_pos rfl]
    unfold laws_eqPipe.f laws_markPipe.f
    rw [if_pos rfl, if_pos rfl, if_pos rfl, if_pos rfl, eqStringS_refl (1048698 + 1 + 1) l (by omega) hlen]
    simp only [Option.bind_some, if_true]
    rw [markS_ok (1048698 + 1 + 1) l (by omega) (by omega)]
    simp only [Option.bind_some]
    rw [if_neg (by omega), markPO' (1048698 + 1 + 1) (by omega) _ _ _ _ _ _ _ _ (by omega) (by omega)]
    simp only [Option.bind_some]
    rw [heldPO' (1048698 + 1 + 1) (by omega) _ _ _ _ _ _ _ _ (by omega) (by omega), Option.bind_some, if_neg (by omega), if_pos rfl]

end Go.Proofs.Ytkbhdiambabnnaa.Pure
