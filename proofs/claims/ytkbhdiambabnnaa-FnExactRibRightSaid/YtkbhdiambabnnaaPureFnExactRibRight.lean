/- The plain law of FnExactRibRight: for all arguments that fit the guards its printed function answers true. -/
import Derived.Test.YtkbhdiambabnnaaPFnExactRibRightx
set_option linter.unusedVariables false
set_option linter.unusedSimpArgs false
namespace Go.Proofs.Ytkbhdiambabnnaa.Pure
open Go.RowKit Go.Proofs.Ytkbhdiambabnnaa.PFnExactRibRight Go.Proofs.YtkbhdiambabnnaaW.PrintWords Go.Proofs.YtkbhdiambabnnaaW.PrintLast Go.Proofs.YtkbhdiambabnnaaW.PrintMore

theorem s_is (a b c : Int) : spec_l02Is.f a b c = some (decide (b ≤ a ∧ a ≤ c)) := by
  unfold spec_l02Is.f; by_cases h : a ≥ b
  · rw [if_pos h]; by_cases h2 : a ≤ c <;> simp [h, h2]
  · rw [if_neg h]; congr 1; symm; apply decide_eq_false; omega

theorem i_in (a b c : Int) : impl_in.f a b c = some (decide (b ≤ a ∧ a ≤ c)) := by
  unfold impl_in.f; by_cases h : b ≤ a
  · rw [if_pos h]; by_cases h2 : a ≤ c <;> simp [h, h2]
  · rw [if_neg h]; congr 1; symm; apply decide_eq_false; omega


def grp (m : Int) : Bool := decide (0 ≤ m ∧ m ≤ 281474976710655) && (Go.bits .and .i64 (m / 1099511627776) 1 == 1)
theorem s_grp (m : Int) : spec_IsGroup.f m = some (grp m) := by
  unfold spec_IsGroup.f spec_l02Mac.f grp
  simp only [s_is, Option.bind_some]
  by_cases h : 0 ≤ m ∧ m ≤ 281474976710655 <;> simp [h]
theorem i_grp (m : Int) : impl_IsGroup.f m = some (grp m) := by
  unfold impl_IsGroup.f impl_isMac.f grp
  simp only [i_in, Option.bind_some]
  by_cases h : 0 ≤ m ∧ m ≤ 281474976710655 <;> simp [h]
def routeOk (k v m ip o s : Int) (st : Bool) : Bool :=
  decide (1 ≤ v ∧ v ≤ 16777215) && decide (1 ≤ o ∧ o ≤ 4) &&
    ((decide (k = 2) && (decide (0 ≤ m ∧ m ≤ 281474976710655) && (!grp m) && decide (0 ≤ ip ∧ ip ≤ 4294967295) && decide (0 ≤ s ∧ s ≤ 1000000))) ||
     (decide (k = 3) && (decide (m = 0) && decide (ip = 0) && decide (s = 0) && !st)))
theorem s_routeRight (n : Nat) (k v m ip o s : Int) (st : Bool) : spec_RouteRight.f (n + 1) k v m ip o s st = some (routeOk k v m ip o s st) := by
  unfold spec_RouteRight.f spec_l02Vni.f routeOk
  simp only [s_is, Option.bind_some, spec_RouteRight.j0, s_grp, spec_l02Mac.f, spec_l02Ip.f]
  by_cases h1 : 1 ≤ v ∧ v ≤ 16777215
  · by_cases h2 : 1 ≤ o ∧ o ≤ 4
    · by_cases hk : k = 2
      · subst hk
        by_cases h3 : 0 ≤ m ∧ m ≤ 281474976710655
        · cases hg : grp m
          · by_cases h4 : 0 ≤ ip ∧ ip ≤ 4294967295 <;> simp [h1, h2, h3, h4]
          · simp [h1, h2, h3]
        · simp [h1, h2, h3]
      · by_cases hk3 : k = 3
        · subst hk3
          by_cases h3 : m = 0
          · by_cases h4 : ip = 0
            · by_cases h5 : s = 0 <;> simp [h1, h2, h3, h4, h5]
            · simp [h1, h2, h3, h4]
          · simp [h1, h2, h3]
        · simp [h1, h2, hk, hk3]
    · simp [h1, h2]
  · simp [h1]
theorem i_routeRight (n : Nat) (k v m ip o s : Int) (st : Bool) : impl_RouteRight.f (n + 1) k v m ip o s st = some (routeOk k v m ip o s st) := by
  unfold impl_RouteRight.f impl_isVni.f impl_isHouse.f routeOk
  simp only [i_in, Option.bind_some, impl_RouteRight.j0, i_grp, impl_isGuest.f, impl_isMac.f, impl_isIp.f, impl_isTime.f]
  by_cases h1 : 1 ≤ v ∧ v ≤ 16777215
  · by_cases h2 : 1 ≤ o ∧ o ≤ 4
    · by_cases hk : k = 2
      · subst hk
        by_cases h3 : 0 ≤ m ∧ m ≤ 281474976710655
        · cases hg : grp m
          · by_cases h4 : 0 ≤ ip ∧ ip ≤ 4294967295 <;> simp [h1, h2, h3, h4]
          · simp [h1, h2, h3]
        · simp [h1, h2, h3]
      · by_cases hk3 : k = 3
        · subst hk3
          by_cases h3 : m = 0
          · by_cases h4 : ip = 0
            · by_cases h5 : s = 0 <;> simp [h1, h2, h3, h4, h5]
            · simp [h1, h2, h3, h4]
          · simp [h1, h2, h3]
        · simp [h1, h2, hk, hk3]
    · simp [h1, h2]
  · simp [h1]

theorem bits_xor_nat (k : IntKind) (a b : Nat) : Go.bits .xor k a b = k.wrap (((a % 2 ^ k.bits) ^^^ (b % 2 ^ k.bits) : Nat) : Int) := by
  simp only [Go.bits, BitVec.ofInt_natCast, BitVec.toNat_xor, BitVec.toNat_ofNat]
theorem bits_or_nat (k : IntKind) (a b : Nat) : Go.bits .or k a b = k.wrap (((a % 2 ^ k.bits) ||| (b % 2 ^ k.bits) : Nat) : Int) := by
  simp only [Go.bits, BitVec.ofInt_natCast, BitVec.toNat_or, BitVec.toNat_ofNat]
theorem bits_and_nat (k : IntKind) (a b : Nat) : Go.bits .and k a b = k.wrap (((a % 2 ^ k.bits) &&& (b % 2 ^ k.bits) : Nat) : Int) := by
  simp only [Go.bits, BitVec.ofInt_natCast, BitVec.toNat_and, BitVec.toNat_ofNat]
theorem wrap_u64 (n : Int) : IntKind.u64.wrap n = n % 18446744073709551616 := by simp [IntKind.wrap, IntKind.bits, IntKind.signed]
theorem wf_i64 {n : Int} (h : (Lit.int .i64 n).wf = true) : -9223372036854775808 ≤ n ∧ n ≤ 9223372036854775807 := by
  simp [Lit.wf, IntKind.signed, IntKind.bits, IntKind.min, IntKind.max] at h
  omega
theorem xor_ones (x : Nat) (h : x < 18446744073709551616) : x ^^^ 18446744073709551615 = 18446744073709551615 - x := by
  have e := BitVec.toNat_not (x := BitVec.ofNat 64 x)
  rw [← BitVec.xor_allOnes, BitVec.toNat_xor, BitVec.toNat_allOnes, BitVec.toNat_ofNat] at e
  rw [Nat.mod_eq_of_lt (by simpa using h)] at e
  simpa using e
theorem wrap64_id {x : Int} (h0 : -9223372036854775808 ≤ x) (h1 : x ≤ 9223372036854775807) : wrap64 x = x := by unfold wrap64; omega
theorem u64_id {x : Int} (h0 : 0 ≤ x) (h1 : x < 18446744073709551616) : IntKind.u64.wrap x = x := by rw [wrap_u64]; omega
theorem tmod_nat (a b : Nat) : Int.tmod (a : Int) (b : Int) = ((a % b : Nat) : Int) := by rw [Int.tmod_eq_emod_of_nonneg (by omega)]; simp
theorem tdiv_nat (a b : Nat) : Int.tdiv (a : Int) (b : Int) = ((a / b : Nat) : Int) := by rw [Int.tdiv_eq_ediv_of_nonneg (by omega)]; simp

/-- A loop that fills a row, element by element. -/
theorem to_loop {α β : Type} (l0 : Nat → List α → List β → Int → Option (List β)) (conv : α → β) (z : α)
    (step : ∀ k xs acc i, l0 (k + 1) xs acc i = if i < (xs.length : Int) then (if 0 ≤ i then (if i < (acc.length : Int) then l0 k xs (acc.set i.toNat (conv (xs.getD i.toNat z))) (wrap64 (i + 1)) else none) else none) else some acc) :
    ∀ (d k i : Nat) (xs : List α) (acc : List β), xs.length = i + d → acc.length = xs.length → d < k → xs.length ≤ 4611686018427387904 → l0 k xs acc (i : Int) = some (acc.take i ++ (xs.drop i).map conv) := by
  intro d
  induction d with
  | zero =>
    intro k i xs acc h1 h2 hk _
    obtain ⟨k, rfl⟩ : ∃ m, k = m + 1 := ⟨k - 1, by omega⟩
    rw [step, if_neg (by omega), List.take_of_length_le (by omega), List.drop_eq_nil_of_le (by omega)]
    simp
  | succ d ih =>
    intro k i xs acc h1 h2 hk hm
    obtain ⟨k, rfl⟩ : ∃ m, k = m + 1 := ⟨k - 1, by omega⟩
    rw [step, if_pos (by omega), if_pos (by omega), if_pos (by omega)]
    have w : wrap64 ((i : Int) + 1) = ((i + 1 : Nat) : Int) := wrap64_id (by omega) (by omega)
    rw [w, ih k (i + 1) xs _ (by omega) (by simpa using h2) (by omega) hm]
    congr 1
    have hi : i < xs.length := by omega
    rw [Int.toNat_natCast, List.getD_eq_getElem?_getD, List.getElem?_eq_getElem hi, Option.getD_some]
    rw [List.drop_eq_getElem_cons hi, List.map_cons]
    have e : (acc.set i (conv xs[i])).take (i + 1) = acc.take i ++ [conv xs[i]] := by
      rw [List.take_set, List.take_succ_eq_append_getElem (by omega), List.set_append_right _ _ (by simp; omega)]
      simp [List.length_take, Nat.min_eq_left (by omega : i ≤ acc.length)]
    rw [e, List.append_assoc]; rfl
/-- The same from the start, over a row of zeros. -/
theorem to_all {α β : Type} (l0 : Nat → List α → List β → Int → Option (List β)) (conv : α → β) (z : α) (zb : β)
    (step : ∀ k xs acc i, l0 (k + 1) xs acc i = if i < (xs.length : Int) then (if 0 ≤ i then (if i < (acc.length : Int) then l0 k xs (acc.set i.toNat (conv (xs.getD i.toNat z))) (wrap64 (i + 1)) else none) else none) else some acc)
    (k : Nat) (xs : List α) (hk : xs.length < k) (hm : xs.length ≤ 4611686018427387904) : l0 k xs (List.replicate ((xs.length : Int)).toNat zb) 0 = some (xs.map conv) := by
  have h := to_loop l0 conv z step xs.length k 0 xs (List.replicate xs.length zb) (by omega) (by simp) hk hm
  simpa using h
/-- A loop that holds a row against itself. -/
theorem eq_loop {α : Type} (l0 : Nat → List α → List α → Int → Option Bool) (eq : α → α → Option Bool) (z : α) (hr : ∀ a, eq a a = some true)
    (step : ∀ k xs ys i, l0 (k + 1) xs ys i = if i < (xs.length : Int) then (if 0 ≤ i then (if i < (ys.length : Int) then ((eq (xs.getD i.toNat z) (ys.getD i.toNat z)).bind fun t => if t = true then l0 k xs ys (wrap64 (i + 1)) else some false) else none) else none) else some true) :
    ∀ (d k i : Nat) (xs : List α), xs.length = i + d → d < k → xs.length ≤ 4611686018427387904 → l0 k xs xs (i : Int) = some true := by
  intro d
  induction d with
  | zero =>
    intro k i xs h1 hk _
    obtain ⟨k, rfl⟩ : ∃ m, k = m + 1 := ⟨k - 1, by omega⟩
    rw [step, if_neg (by omega)]
  | succ d ih =>
    intro k i xs h1 hk hm
    obtain ⟨k, rfl⟩ : ∃ m, k = m + 1 := ⟨k - 1, by omega⟩
    rw [step, if_pos (by omega), if_pos (by omega), if_pos (by omega), hr, Option.bind_some, if_pos rfl]
    have w : wrap64 ((i : Int) + 1) = ((i + 1 : Nat) : Int) := wrap64_id (by omega) (by omega)
    rw [w, ih k (i + 1) xs (by omega) (by omega) hm]
theorem eq_all {α : Type} (l0 : Nat → List α → List α → Int → Option Bool) (eq : α → α → Option Bool) (z : α) (hr : ∀ a, eq a a = some true)
    (step : ∀ k xs ys i, l0 (k + 1) xs ys i = if i < (xs.length : Int) then (if 0 ≤ i then (if i < (ys.length : Int) then ((eq (xs.getD i.toNat z) (ys.getD i.toNat z)).bind fun t => if t = true then l0 k xs ys (wrap64 (i + 1)) else some false) else none) else none) else some true)
    (k : Nat) (xs : List α) (hk : xs.length < k) (hm : xs.length ≤ 4611686018427387904) : l0 k xs xs 0 = some true := by
  have h := eq_loop l0 eq z hr step xs.length k 0 xs (by omega) hk hm
  simpa using h
theorem getD_at {α : Type} {xs : List α} {i : Nat} (z : α) (h : i < xs.length) : xs.getD ((i : Int)).toNat z = xs[i] := by
  rw [Int.toNat_natCast, List.getD_eq_getElem?_getD, List.getElem?_eq_getElem h, Option.getD_some]

def convH (x : S139) : S135 := ⟨x.f0, x.f1, ⟨x.f2.f0, x.f2.f1, x.f2.f2, x.f2.f3, x.f2.f4, x.f2.f5, x.f2.f6⟩⟩
theorem toHeldS_ok (k : Nat) (l : List S139) (hk : l.length < k) (hl : l.length ≤ 1048576) : laws_toHeldS.f k l = some (l.map convH) := by
  unfold laws_toHeldS.f
  rw [if_pos (by omega), if_pos (by omega)]
  exact to_all laws_toHeldS.l0 convH z139 z135 (fun k xs acc i => by simp only [laws_toHeldS.l0, laws_toHeld.f, laws_toRoute.f, Option.bind_some]; rfl) k l hk (by omega)
theorem eqHeld_refl (a : S135) : laws_eqHeld.f a.f0 a.f1 a.f2.f0 a.f2.f1 a.f2.f2 a.f2.f3 a.f2.f4 a.f2.f5 a.f2.f6 a.f0 a.f1 a.f2.f0 a.f2.f1 a.f2.f2 a.f2.f3 a.f2.f4 a.f2.f5 a.f2.f6 = some true := by simp [laws_eqHeld.f, laws_eqRoute.f]
theorem eqHeldS_refl (k : Nat) (l : List S135) (hk : l.length < k) (hl : l.length ≤ 1048576) : laws_eqHeldS.f k l l = some true := by
  unfold laws_eqHeldS.f
  rw [if_pos rfl]
  exact eq_all laws_eqHeldS.l0 (fun a b => laws_eqHeld.f a.f0 a.f1 a.f2.f0 a.f2.f1 a.f2.f2 a.f2.f3 a.f2.f4 a.f2.f5 a.f2.f6 b.f0 b.f1 b.f2.f0 b.f2.f1 b.f2.f2 b.f2.f3 b.f2.f4 b.f2.f5 b.f2.f6) z135 eqHeld_refl (fun k xs ys i => by simp only [laws_eqHeldS.l0]; rfl) k l hk (by omega)
theorem szHeldS_ok (l : List S139) (hl : l.length ≤ 9223372036854775807) : laws_szHeldS.f l 1048576 = some (if l.length ≤ 1048576 then 1048576 - (l.length : Int) else -1) := by
  unfold laws_szHeldS.f
  have w : wrap64 (1048576 - (l.length : Int)) = 1048576 - (l.length : Int) := wrap64_id (by omega) (by omega)
  rw [w]
  by_cases h : l.length ≤ 1048576
  · rw [if_neg (by omega), if_pos h]
  · rw [if_pos (by omega), if_neg h]

def cmpI (a b : Int) : Int := if a < b then -1 else if a > b then 1 else 0
theorem cmp_ok (a b : Int) : cmp_Compare_int64.f a b = some (cmpI a b) := by
  unfold cmp_Compare_int64.f cmp_isNaN_int64.f cmpI
  simp only [bne_self_eq_false, Option.bind_some]
  rw [if_neg (by simp), if_neg (by simp)]
  split
  · rfl
  · split <;> rfl
def orI : List Int → Int
  | [] => 0
  | x :: l => if x = 0 then orI l else x
theorem or_l0 : ∀ (d k i : Nat) (xs : List Int), xs.length = i + d → d < k → xs.length ≤ 1000 → cmp_Or_int.l0 k 0 xs (xs.length : Int) (i : Int) = some (orI (xs.drop i)) := by
  intro d
  induction d with
  | zero =>
    intro k i xs h1 hk _
    obtain ⟨k, rfl⟩ : ∃ m, k = m + 1 := ⟨k - 1, by omega⟩
    simp only [cmp_Or_int.l0]
    rw [if_neg (by omega), List.drop_eq_nil_of_le (by omega)]; rfl
  | succ d ih =>
    intro k i xs h1 hk hm
    obtain ⟨k, rfl⟩ : ∃ m, k = m + 1 := ⟨k - 1, by omega⟩
    have hi : i < xs.length := by omega
    have w : wrap64 ((i : Int) + 1) = ((i + 1 : Nat) : Int) := wrap64_id (by omega) (by omega)
    simp only [cmp_Or_int.l0]
    rw [if_pos (by omega), if_pos (by omega), if_pos (by omega), w, ih k (i + 1) xs (by omega) (by omega) hm, List.drop_eq_getElem_cons hi, orI, rd, getD_at 0 hi]
    split <;> rfl
theorem or_ok (k : Nat) (xs : List Int) (hk : xs.length < k) (hm : xs.length ≤ 1000) : cmp_Or_int.f k xs = some (orI xs) := by
  unfold cmp_Or_int.f
  have h := or_l0 xs.length k 0 xs (by omega) hk hm
  simpa using h

def hdLess (a b : S135) : Bool := if a.f0 = b.f0 then (if a.f2.f0 = b.f2.f0 then (if a.f2.f1 = b.f2.f1 then (if a.f2.f2 = b.f2.f2 then (if a.f2.f4 = b.f2.f4 then false else decide (a.f2.f4 < b.f2.f4)) else decide (a.f2.f2 < b.f2.f2)) else decide (a.f2.f1 < b.f2.f1)) else decide (a.f2.f0 < b.f2.f0)) else decide (a.f0 < b.f0)
theorem s_hdLess (a b : S135) : spec_l06Less.f a.f0 a.f1 a.f2.f0 a.f2.f1 a.f2.f2 a.f2.f3 a.f2.f4 a.f2.f5 a.f2.f6 b.f0 b.f1 b.f2.f0 b.f2.f1 b.f2.f2 b.f2.f3 b.f2.f4 b.f2.f5 b.f2.f6 = some (hdLess a b) := by
  unfold spec_l06Less.f hdLess
  split
  · split
    · split
      · split
        · split
          · rename_i h
            rw [decide_eq_false (by omega)]
          · rfl
        · rfl
      · rfl
    · rfl
  · rfl
theorem ord_step (x y : Int) (l : List Int) (L : Bool) (h : orI l ≥ 0 ↔ L = false) : orI (cmpI x y :: l) ≥ 0 ↔ (if x = y then L else decide (x < y)) = false := by
  unfold orI cmpI
  by_cases e : x = y
  · subst e
    simpa using h
  · by_cases hl : x < y
    · simp [e, hl]
    · have hg : x > y := by omega
      simp [e, hl, hg]
theorem i_hdOrder (k : Nat) (hk : 5 < k) (a b : S135) : ∃ n, impl_Held_order.f k a.f0 a.f1 a.f2.f0 a.f2.f1 a.f2.f2 a.f2.f3 a.f2.f4 a.f2.f5 a.f2.f6 b.f0 b.f1 b.f2.f0 b.f2.f1 b.f2.f2 b.f2.f3 b.f2.f4 b.f2.f5 b.f2.f6 = some n ∧ (n ≥ 0 ↔ hdLess a b = false) := by
  unfold impl_Held_order.f hdLess
  simp only [cmp_ok, Option.bind_some]
  rw [or_ok k _ (by simpa using hk) (by simp)]
  refine ⟨_, rfl, ?_⟩
  exact ord_step _ _ _ _ (ord_step _ _ _ _ (ord_step _ _ _ _ (ord_step _ _ _ _ (ord_step _ _ _ _ (by simp [orI])))))
def hOk (a : S135) : Bool := decide (1 ≤ a.f0 ∧ a.f0 ≤ 9) && routeOk a.f2.f0 a.f2.f1 a.f2.f2 a.f2.f3 a.f2.f4 a.f2.f5 a.f2.f6
def hdFrom (xs : List S135) : Nat → Nat → Bool
  | _, 0 => true
  | i, d + 1 => hOk (xs.getD i z135) && ((decide (i = 0) || hdLess (xs.getD (i - 1) z135) (xs.getD i z135)) && hdFrom xs (i + 1) d)
theorem s_hd_l0 : ∀ (d k i : Nat) (xs : List S135), xs.length = i + d → d + 1 < k → xs.length ≤ 1048576 → spec_RibRight.l0 k xs (i : Int) = some (hdFrom xs i d) := by
  intro d
  induction d with
  | zero =>
    intro k i xs h1 hk _
    obtain ⟨k, rfl⟩ : ∃ m, k = m + 1 := ⟨k - 1, by omega⟩
    simp only [spec_RibRight.l0]
    rw [if_neg (by omega)]; rfl
  | succ d ih =>
    intro k i xs h1 hk hm
    obtain ⟨k, rfl⟩ : ∃ m, k = m + 1 + 1 := ⟨k - 2, by omega⟩
    have w : wrap64 ((i : Int) + 1) = ((i + 1 : Nat) : Int) := wrap64_id (by omega) (by omega)
    rw [spec_RibRight.l0]
    simp only [rd_T135, hdFrom, spec_l06Peer.f, s_is, Option.bind_some]
    rw [if_pos (by omega), if_pos (by omega), s_routeRight, Option.bind_some, w, ih (k + 1) (i + 1) xs (by omega) (by omega) hm, Int.toNat_natCast]
    unfold hOk
    by_cases hp : 1 ≤ (xs.getD i z135).f0 ∧ (xs.getD i z135).f0 ≤ 9
    · rw [decide_eq_true hp, if_pos rfl]
      cases hr : routeOk (xs.getD i z135).f2.f0 (xs.getD i z135).f2.f1 (xs.getD i z135).f2.f2 (xs.getD i z135).f2.f3 (xs.getD i z135).f2.f4 (xs.getD i z135).f2.f5 (xs.getD i z135).f2.f6 with
      | false => rw [if_neg (by simp)]; simp
      | true =>
        rw [if_pos rfl]
        by_cases h0 : i = 0
        · rw [if_neg (by omega)]; simp [h0]
        · have w1 : wrap64 ((i : Int) - 1) = ((i - 1 : Nat) : Int) := by rw [wrap64_id (by omega) (by omega)]; omega
          rw [if_pos (by omega), w1, if_pos (by omega), if_pos (by omega), s_hdLess, Option.bind_some, Int.toNat_natCast]
          cases hdLess (xs.getD (i - 1) z135) (xs.getD i z135) <;> simp [h0]
    · rw [decide_eq_false hp, if_neg (by simp)]; simp
theorem i_hd_l0 : ∀ (d k i : Nat) (xs : List S135), xs.length = i + d → d + 7 < k → xs.length ≤ 1048576 → impl_RibRight.l0 k xs xs (xs.length : Int) (i : Int) = some (hdFrom xs i d && decide ((xs.length : Int) ≤ 60)) := by
  intro d
  induction d with
  | zero =>
    intro k i xs h1 hk _
    obtain ⟨k, rfl⟩ : ∃ m, k = m + 1 := ⟨k - 1, by omega⟩
    simp only [impl_RibRight.l0]
    rw [if_neg (by omega)]; simp [hdFrom]
  | succ d ih =>
    intro k i xs h1 hk hm
    obtain ⟨k, rfl⟩ : ∃ m, k = m + 1 + 1 := ⟨k - 2, by omega⟩
    have w : wrap64 ((i : Int) + 1) = ((i + 1 : Nat) : Int) := wrap64_id (by omega) (by omega)
    rw [impl_RibRight.l0]
    simp only [rd_T135, hdFrom, impl_isPeer.f, i_in, Option.bind_some]
    rw [if_pos (by omega), if_pos (by omega), if_pos (by omega), i_routeRight, Option.bind_some, w, ih (k + 1) (i + 1) xs (by omega) (by omega) hm, Int.toNat_natCast]
    unfold hOk
    by_cases hp : 1 ≤ (xs.getD i z135).f0 ∧ (xs.getD i z135).f0 ≤ 9
    · rw [decide_eq_true hp, if_pos rfl]
      cases hr : routeOk (xs.getD i z135).f2.f0 (xs.getD i z135).f2.f1 (xs.getD i z135).f2.f2 (xs.getD i z135).f2.f3 (xs.getD i z135).f2.f4 (xs.getD i z135).f2.f5 (xs.getD i z135).f2.f6 with
      | false => rw [if_neg (by simp)]; simp
      | true =>
        rw [if_pos rfl]
        by_cases h0 : i = 0
        · rw [if_neg (by omega)]; simp [h0]
        · have w1 : wrap64 ((i : Int) - 1) = ((i - 1 : Nat) : Int) := by rw [wrap64_id (by omega) (by omega)]; omega
          obtain ⟨n, hn, hl⟩ := i_hdOrder (k + 1) (by omega) (xs.getD (i - 1) z135) (xs.getD i z135)
          rw [if_pos (by omega), w1, if_pos (by omega), if_pos (by omega), Int.toNat_natCast, hn, Option.bind_some]
          by_cases hnn : n ≥ 0
          · rw [if_pos hnn, hl.1 hnn]; simp [h0]
          · have : hdLess (xs.getD (i - 1) z135) (xs.getD i z135) = true := by
              cases hh : hdLess (xs.getD (i - 1) z135) (xs.getD i z135)
              · exact absurd (hl.2 hh) hnn
              · rfl
            rw [if_neg hnn, this]; simp
    · rw [decide_eq_false hp, if_neg (by simp)]; simp
def ribOk (xs : List S135) : Bool := hdFrom xs 0 xs.length && decide ((xs.length : Int) ≤ 60)
theorem s_ribRight (k : Nat) (xs : List S135) (hk : xs.length + 1 < k) (hm : xs.length ≤ 1048576) : spec_RibRight.f k xs = some (ribOk xs) := by
  unfold spec_RibRight.f ribOk
  by_cases h : (xs.length : Int) > 60
  · rw [if_pos h]; simp; omega
  · rw [if_neg h]
    have e := s_hd_l0 xs.length k 0 xs (by omega) hk hm
    rw [show ((0 : Nat) : Int) = 0 from rfl] at e
    rw [e]; simp; omega
theorem i_ribRight (k : Nat) (xs : List S135) (hk : xs.length + 7 < k) (hm : xs.length ≤ 1048576) : impl_RibRight.f k xs = some (ribOk xs) := by
  unfold impl_RibRight.f ribOk
  exact i_hd_l0 xs.length k 0 xs (by omega) hk hm

theorem FnExactRibRight : laws_FnExactRibRight.Pure := by
  intro l ⟨hl, _⟩
  refine ⟨l.length + 8, ?_⟩
  unfold laws_FnExactRibRight.f
  rw [szHeldS_ok l hl, Option.bind_some]
  by_cases h : l.length ≤ 1048576
  · have hm : (l.map convH).length = l.length := List.length_map _
    rw [if_pos h, if_neg (by omega), toHeldS_ok _ l (by omega) h]
    simp only [Option.bind_some]
    rw [s_ribRight _ _ (by omega) (by omega), i_ribRight _ _ (by omega) (by omega)]
    simp only [Option.bind_some]
    rw [eqHeldS_refl _ _ (by omega) (by omega)]
    simp
  · rw [if_neg h, if_pos (by omega)]

end Go.Proofs.Ytkbhdiambabnnaa.Pure
