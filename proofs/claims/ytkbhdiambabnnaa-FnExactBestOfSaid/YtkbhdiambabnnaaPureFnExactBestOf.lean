/- The plain law of FnExactBestOf: for all arguments that fit the guards its printed function answers true. -/
import Derived.Test.YtkbhdiambabnnaaPFnExactBestOfx
set_option linter.unusedVariables false
set_option linter.unusedSimpArgs false
namespace Go.Proofs.Ytkbhdiambabnnaa.Pure
open Go.RowKit Go.Proofs.Ytkbhdiambabnnaa.PFnExactBestOf Go.Proofs.YtkbhdiambabnnaaW.PrintWords Go.Proofs.YtkbhdiambabnnaaW.PrintLast Go.Proofs.YtkbhdiambabnnaaW.PrintMore

theorem s_is (a b c : Int) : spec_l02Is.f a b c = some (decide (b ≤ a ∧ a ≤ c)) := by
  unfold spec_l02Is.f; by_cases h : a ≥ b
  · rw [if_pos h]; by_cases h2 : a ≤ c <;> simp [h, h2]
  · rw [if_neg h]; congr 1; symm; apply decide_eq_false; omega

theorem i_in (a b c : Int) : impl_in.f a b c = some (decide (b ≤ a ∧ a ≤ c)) := by
  unfold impl_in.f; by_cases h : b ≤ a
  · rw [if_pos h]; by_cases h2 : a ≤ c <;> simp [h, h2]
  · rw [if_neg h]; congr 1; symm; apply decide_eq_false; omega


def grp (m : Int) : Bool := decide (0 ≤ m ∧ m ≤ 281474976710655) && (Go.bits .and .i64 (m / 1099511627776) 1 == 1)
theorem s_grp (m : Int) : spec_IsGroup.f m = some (grp m) := by
  unfold spec_IsGroup.f spec_l02Mac.f grp
  simp only [s_is, Option.bind_some]
  by_cases h : 0 ≤ m ∧ m ≤ 281474976710655 <;> simp [h]
theorem i_grp (m : Int) : impl_IsGroup.f m = some (grp m) := by
  unfold impl_IsGroup.f impl_isMac.f grp
  simp only [i_in, Option.bind_some]
  by_cases h : 0 ≤ m ∧ m ≤ 281474976710655 <;> simp [h]
def routeOk (k v m ip o s : Int) (st : Bool) : Bool :=
  decide (1 ≤ v ∧ v ≤ 16777215) && decide (1 ≤ o ∧ o ≤ 4) &&
    ((decide (k = 2) && (decide (0 ≤ m ∧ m ≤ 281474976710655) && (!grp m) && decide (0 ≤ ip ∧ ip ≤ 4294967295) && decide (0 ≤ s ∧ s ≤ 1000000))) ||
     (decide (k = 3) && (decide (m = 0) && decide (ip = 0) && decide (s = 0) && !st)))
theorem s_routeRight (n : Nat) (k v m ip o s : Int) (st : Bool) : spec_RouteRight.f (n + 1) k v m ip o s st = some (routeOk k v m ip o s st) := by
  unfold spec_RouteRight.f spec_l02Vni.f routeOk
  simp only [s_is, Option.bind_some, spec_RouteRight.j0, s_grp, spec_l02Mac.f, spec_l02Ip.f]
  by_cases h1 : 1 ≤ v ∧ v ≤ 16777215
  · by_cases h2 : 1 ≤ o ∧ o ≤ 4
    · by_cases hk : k = 2
      · subst hk
        by_cases h3 : 0 ≤ m ∧ m ≤ 281474976710655
        · cases hg : grp m
          · by_cases h4 : 0 ≤ ip ∧ ip ≤ 4294967295 <;> simp [h1, h2, h3, h4]
          · simp [h1, h2, h3]
        · simp [h1, h2, h3]
      · by_cases hk3 : k = 3
        · subst hk3
          by_cases h3 : m = 0
          · by_cases h4 : ip = 0
            · by_cases h5 : s = 0 <;> simp [h1, h2, h3, h4, h5]
            · simp [h1, h2, h3, h4]
          · simp [h1, h2, h3]
        · simp [h1, h2, hk, hk3]
    · simp [h1, h2]
  · simp [h1]
theorem i_routeRight (n : Nat) (k v m ip o s : Int) (st : Bool) : impl_RouteRight.f (n + 1) k v m ip o s st = some (routeOk k v m ip o s st) := by
  unfold impl_RouteRight.f impl_isVni.f impl_isHouse.f routeOk
  simp only [i_in, Option.bind_some, impl_RouteRight.j0, i_grp, impl_isGuest.f, impl_isMac.f, impl_isIp.f, impl_isTime.f]
  by_cases h1 : 1 ≤ v ∧ v ≤ 16777215
  · by_cases h2 : 1 ≤ o ∧ o ≤ 4
    · by_cases hk : k = 2
      · subst hk
        by_cases h3 : 0 ≤ m ∧ m ≤ 281474976710655
        · cases hg : grp m
          · by_cases h4 : 0 ≤ ip ∧ ip ≤ 4294967295 <;> simp [h1, h2, h3, h4]
          · simp [h1, h2, h3]
        · simp [h1, h2, h3]
      · by_cases hk3 : k = 3
        · subst hk3
          by_cases h3 : m = 0
          · by_cases h4 : ip = 0
            · by_cases h5 : s = 0 <;> simp [h1, h2, h3, h4, h5]
            · simp [h1, h2, h3, h4]
          · simp [h1, h2, h3]
        · simp [h1, h2, hk, hk3]
    · simp [h1, h2]
  · simp [h1]

def betB (o s : Int) (st : Bool) (o' s' : Int) (st' : Bool) : Bool := if (st != st') = true then st else (if s = s' then decide (o < o') else decide (s > s'))
def betterOk (k v m ip o s : Int) (st : Bool) (k' v' m' ip' o' s' : Int) (st' : Bool) : Bool :=
  routeOk k v m ip o s st && (routeOk k' v' m' ip' o' s' st' && (decide (k = 2) && (decide (k' = 2) && (decide (v = v') && (decide (m = m') && betB o s st o' s' st')))))
theorem s_bet (k v m ip o s : Int) (st : Bool) (k' v' m' ip' o' s' : Int) (st' : Bool) : spec_l03Better.f k v m ip o s st k' v' m' ip' o' s' st' = some (betB o s st o' s' st') := by
  unfold spec_l03Better.f betB
  by_cases h : (st != st') = true
  · rw [if_pos h, if_pos h]
  · rw [if_neg h, if_neg h]; split <;> rfl

theorem i_betj (n : Nat) (b : Bool) (k v m ip o s : Int) (st : Bool) (k' v' m' ip' o' s' : Int) (st' : Bool) : impl_Better.j0 (n + 1) b k v m ip o s st k' v' m' ip' o' s' st' = some (!b && betB o s st o' s' st') := by
  simp only [impl_Better.j0]
  unfold betB
  cases b
  · by_cases h : (st != st') = true
    · rw [if_neg (by simp), if_pos h, if_pos h]; rfl
    · rw [if_neg (by simp), if_neg h, if_neg h]; split <;> simp
  · simp
theorem i_better (n : Nat) (k v m ip o s : Int) (st : Bool) (k' v' m' ip' o' s' : Int) (st' : Bool) : impl_Better.f (n + 1) k v m ip o s st k' v' m' ip' o' s' st' = some (betterOk k v m ip o s st k' v' m' ip' o' s' st') := by
  unfold impl_Better.f betterOk
  simp only [i_routeRight, i_betj, Option.bind_some]
  by_cases h1 : routeOk k v m ip o s st = true
  · by_cases h2 : routeOk k' v' m' ip' o' s' st' = true
    · by_cases h3 : k = 2
      · by_cases h4 : k' = 2
        · by_cases h5 : v = v'
          · by_cases h6 : m = m'
            · rw [if_pos h1, if_pos h2, if_pos h3, if_pos h4, if_pos h5, h1, h2]; simp [h3, h4, h5, h6]
            · simp [h1, h2, h3, h4, h5, h6]
          · simp [h1, h2, h3, h4, h5]
        · simp [h1, h2, h3, h4]
      · simp [h1, h2, h3]
    · simp [h1, h2]
  · simp [h1]

theorem bits_xor_nat (k : IntKind) (a b : Nat) : Go.bits .xor k a b = k.wrap (((a % 2 ^ k.bits) ^^^ (b % 2 ^ k.bits) : Nat) : Int) := by
  simp only [Go.bits, BitVec.ofInt_natCast, BitVec.toNat_xor, BitVec.toNat_ofNat]
theorem bits_or_nat (k : IntKind) (a b : Nat) : Go.bits .or k a b = k.wrap (((a % 2 ^ k.bits) ||| (b % 2 ^ k.bits) : Nat) : Int) := by
  simp only [Go.bits, BitVec.ofInt_natCast, BitVec.toNat_or, BitVec.toNat_ofNat]
theorem bits_and_nat (k : IntKind) (a b : Nat) : Go.bits .and k a b = k.wrap (((a % 2 ^ k.bits) &&& (b % 2 ^ k.bits) : Nat) : Int) := by
  simp only [Go.bits, BitVec.ofInt_natCast, BitVec.toNat_and, BitVec.toNat_ofNat]
theorem wrap_u64 (n : Int) : IntKind.u64.wrap n = n % 18446744073709551616 := by simp [IntKind.wrap, IntKind.bits, IntKind.signed]
theorem wf_i64 {n : Int} (h : (Lit.int .i64 n).wf = true) : -9223372036854775808 ≤ n ∧ n ≤ 9223372036854775807 := by
  simp [Lit.wf, IntKind.signed, IntKind.bits, IntKind.min, IntKind.max] at h
  omega
theorem xor_ones (x : Nat) (h : x < 18446744073709551616) : x ^^^ 18446744073709551615 = 18446744073709551615 - x := by
  have e := BitVec.toNat_not (x := BitVec.ofNat 64 x)
  rw [← BitVec.xor_allOnes, BitVec.toNat_xor, BitVec.toNat_allOnes, BitVec.toNat_ofNat] at e
  rw [Nat.mod_eq_of_lt (by simpa using h)] at e
  simpa using e
theorem wrap64_id {x : Int} (h0 : -9223372036854775808 ≤ x) (h1 : x ≤ 9223372036854775807) : wrap64 x = x := by unfold wrap64; omega
theorem u64_id {x : Int} (h0 : 0 ≤ x) (h1 : x < 18446744073709551616) : IntKind.u64.wrap x = x := by rw [wrap_u64]; omega
theorem tmod_nat (a b : Nat) : Int.tmod (a : Int) (b : Int) = ((a % b : Nat) : Int) := by rw [Int.tmod_eq_emod_of_nonneg (by omega)]; simp
theorem tdiv_nat (a b : Nat) : Int.tdiv (a : Int) (b : Int) = ((a / b : Nat) : Int) := by rw [Int.tdiv_eq_ediv_of_nonneg (by omega)]; simp

/-- A loop that fills a row, element by element. -/
theorem to_loop {α β : Type} (l0 : Nat → List α → List β → Int → Option (List β)) (conv : α → β) (z : α)
    (step : ∀ k xs acc i, l0 (k + 1) xs acc i = if i < (xs.length : Int) then (if 0 ≤ i then (if i < (acc.length : Int) then l0 k xs (acc.set i.toNat (conv (xs.getD i.toNat z))) (wrap64 (i + 1)) else none) else none) else some acc) :
    ∀ (d k i : Nat) (xs : List α) (acc : List β), xs.length = i + d → acc.length = xs.length → d < k → xs.length ≤ 4611686018427387904 → l0 k xs acc (i : Int) = some (acc.take i ++ (xs.drop i).map conv) := by
  intro d
  induction d with
  | zero =>
    intro k i xs acc h1 h2 hk _
    obtain ⟨k, rfl⟩ : ∃ m, k = m + 1 := ⟨k - 1, by omega⟩
    rw [step, if_neg (by omega), List.take_of_length_le (by omega), List.drop_eq_nil_of_le (by omega)]
    simp
  | succ d ih =>
    intro k i xs acc h1 h2 hk hm
    obtain ⟨k, rfl⟩ : ∃ m, k = m + 1 := ⟨k - 1, by omega⟩
    rw [step, if_pos (by omega), if_pos (by omega), if_pos (by omega)]
    have w : wrap64 ((i : Int) + 1) = ((i + 1 : Nat) : Int) := wrap64_id (by omega) (by omega)
    rw [w, ih k (i + 1) xs _ (by omega) (by simpa using h2) (by omega) hm]
    congr 1
    have hi : i < xs.length := by omega
    rw [Int.toNat_natCast, List.getD_eq_getElem?_getD, List.getElem?_eq_getElem hi, Option.getD_some]
    rw [List.drop_eq_getElem_cons hi, List.map_cons]
    have e : (acc.set i (conv xs[i])).take (i + 1) = acc.take i ++ [conv xs[i]] := by
      rw [List.take_set, List.take_succ_eq_append_getElem (by omega), List.set_append_right _ _ (by simp; omega)]
      simp [List.length_take, Nat.min_eq_left (by omega : i ≤ acc.length)]
    rw [e, List.append_assoc]; rfl
/-- The same from the start, over a row of zeros. -/
theorem to_all {α β : Type} (l0 : Nat → List α → List β → Int → Option (List β)) (conv : α → β) (z : α) (zb : β)
    (step : ∀ k xs acc i, l0 (k + 1) xs acc i = if i < (xs.length : Int) then (if 0 ≤ i then (if i < (acc.length : Int) then l0 k xs (acc.set i.toNat (conv (xs.getD i.toNat z))) (wrap64 (i + 1)) else none) else none) else some acc)
    (k : Nat) (xs : List α) (hk : xs.length < k) (hm : xs.length ≤ 4611686018427387904) : l0 k xs (List.replicate ((xs.length : Int)).toNat zb) 0 = some (xs.map conv) := by
  have h := to_loop l0 conv z step xs.length k 0 xs (List.replicate xs.length zb) (by omega) (by simp) hk hm
  simpa using h
/-- A loop that holds a row against itself. -/
theorem eq_loop {α : Type} (l0 : Nat → List α → List α → Int → Option Bool) (eq : α → α → Option Bool) (z : α) (hr : ∀ a, eq a a = some true)
    (step : ∀ k xs ys i, l0 (k + 1) xs ys i = if i < (xs.length : Int) then (if 0 ≤ i then (if i < (ys.length : Int) then ((eq (xs.getD i.toNat z) (ys.getD i.toNat z)).bind fun t => if t = true then l0 k xs ys (wrap64 (i + 1)) else some false) else none) else none) else some true) :
    ∀ (d k i : Nat) (xs : List α), xs.length = i + d → d < k → xs.length ≤ 4611686018427387904 → l0 k xs xs (i : Int) = some true := by
  intro d
  induction d with
  | zero =>
    intro k i xs h1 hk _
    obtain ⟨k, rfl⟩ : ∃ m, k = m + 1 := ⟨k - 1, by omega⟩
    rw [step, if_neg (by omega)]
  | succ d ih =>
    intro k i xs h1 hk hm
    obtain ⟨k, rfl⟩ : ∃ m, k = m + 1 := ⟨k - 1, by omega⟩
    rw [step, if_pos (by omega), if_pos (by omega), if_pos (by omega), hr, Option.bind_some, if_pos rfl]
    have w : wrap64 ((i : Int) + 1) = ((i + 1 : Nat) : Int) := wrap64_id (by omega) (by omega)
    rw [w, ih k (i + 1) xs (by omega) (by omega) hm]
theorem eq_all {α : Type} (l0 : Nat → List α → List α → Int → Option Bool) (eq : α → α → Option Bool) (z : α) (hr : ∀ a, eq a a = some true)
    (step : ∀ k xs ys i, l0 (k + 1) xs ys i = if i < (xs.length : Int) then (if 0 ≤ i then (if i < (ys.length : Int) then ((eq (xs.getD i.toNat z) (ys.getD i.toNat z)).bind fun t => if t = true then l0 k xs ys (wrap64 (i + 1)) else some false) else none) else none) else some true)
    (k : Nat) (xs : List α) (hk : xs.length < k) (hm : xs.length ≤ 4611686018427387904) : l0 k xs xs 0 = some true := by
  have h := eq_loop l0 eq z hr step xs.length k 0 xs (by omega) hk hm
  simpa using h
theorem getD_at {α : Type} {xs : List α} {i : Nat} (z : α) (h : i < xs.length) : xs.getD ((i : Int)).toNat z = xs[i] := by
  rw [Int.toNat_natCast, List.getD_eq_getElem?_getD, List.getElem?_eq_getElem h, Option.getD_some]

def convRt (x : S66) : S59 := ⟨x.f0, x.f1, x.f2, x.f3, x.f4, x.f5, x.f6⟩
theorem toRouteS_ok (k : Nat) (l : List S66) (hk : l.length < k) (hl : l.length ≤ 1048576) : laws_toRouteS.f k l = some (l.map convRt) := by
  unfold laws_toRouteS.f
  rw [if_pos (by omega), if_pos (by omega)]
  exact to_all laws_toRouteS.l0 convRt z66 z59 (fun k xs acc i => by simp only [laws_toRouteS.l0, laws_toRoute.f, Option.bind_some]; rfl) k l hk (by omega)
theorem eqRoute_refl (a0 a1 a2 a3 a4 a5 : Int) (a6 : Bool) : laws_eqRoute.f a0 a1 a2 a3 a4 a5 a6 a0 a1 a2 a3 a4 a5 a6 = some true := by simp [laws_eqRoute.f]
theorem eqRouteS_refl (k : Nat) (l : List S59) (hk : l.length < k) (hl : l.length ≤ 1048576) : laws_eqRouteS.f k l l = some true := by
  unfold laws_eqRouteS.f
  rw [if_pos rfl]
  exact eq_all laws_eqRouteS.l0 (fun a b => laws_eqRoute.f a.f0 a.f1 a.f2 a.f3 a.f4 a.f5 a.f6 b.f0 b.f1 b.f2 b.f3 b.f4 b.f5 b.f6) z59 (fun a => eqRoute_refl ..) (fun k xs ys i => by simp only [laws_eqRouteS.l0]; rfl) k l hk (by omega)
theorem szRouteS_ok (l : List S66) (hl : l.length ≤ 9223372036854775807) : laws_szRouteS.f l 1048576 = some (if l.length ≤ 1048576 then 1048576 - (l.length : Int) else -1) := by
  unfold laws_szRouteS.f
  have w : wrap64 (1048576 - (l.length : Int)) = 1048576 - (l.length : Int) := wrap64_id (by omega) (by omega)
  rw [w]
  by_cases h : l.length ≤ 1048576
  · rw [if_neg (by omega), if_pos h]
  · rw [if_pos (by omega), if_neg h]

def bestStep (vni mac : Int) (r b : S59) : S59 :=
  if routeOk r.f0 r.f1 r.f2 r.f3 r.f4 r.f5 r.f6 = true ∧ r.f0 = 2 ∧ r.f1 = vni ∧ r.f2 = mac ∧ (b.f0 = 0 ∨ betB r.f4 r.f5 r.f6 b.f4 b.f5 b.f6 = true) then r else b
def bestL (vni mac : Int) (xs : List S59) (b : S59) : S59 := xs.foldl (fun b r => bestStep vni mac r b) b
def bestInv (vni mac : Int) (b : S59) : Prop := b = z59 ∨ (routeOk b.f0 b.f1 b.f2 b.f3 b.f4 b.f5 b.f6 = true ∧ b.f0 = 2 ∧ b.f1 = vni ∧ b.f2 = mac)
theorem bestInv_step {vni mac : Int} {r b : S59} (h : bestInv vni mac b) : bestInv vni mac (bestStep vni mac r b) := by
  unfold bestStep
  split
  · rename_i hh; exact .inr ⟨hh.1, hh.2.1, hh.2.2.1, hh.2.2.2.1⟩
  · exact h
def tup (b : S59) : Int × Int × Int × Int × Int × Int × Bool := (b.f0, b.f1, b.f2, b.f3, b.f4, b.f5, b.f6)
theorem s_best_l0 (vni mac : Int) (xs : List S59) (hm : xs.length ≤ 400) : ∀ (d k i : Nat) (b : S59), xs.length = i + d → 2 * d + 4 ≤ k →
    spec_BestOf.l0 k xs vni mac (i : Int) b.f0 b.f1 b.f2 b.f3 b.f4 b.f5 b.f6 = some (tup (bestL vni mac (xs.drop i) b)) := by
  intro d
  induction d with
  | zero =>
    intro k i b h1 hk
    obtain ⟨k, rfl⟩ : ∃ m, k = m + 2 := ⟨k - 2, by omega⟩
    simp only [spec_BestOf.l0, spec_BestOf.j1]
    rw [if_neg (by omega), if_neg (by simp), List.drop_eq_nil_of_le (by omega)]; rfl
  | succ d ih =>
    intro k i b h1 hk
    obtain ⟨k, rfl⟩ : ∃ m, k = m + 3 := ⟨k - 3, by omega⟩
    have w : wrap64 ((i : Int) + 1) = ((i + 1 : Nat) : Int) := wrap64_id (by omega) (by omega)
    have hi : i < xs.length := by omega
    have ih1 := ih (k + 1) (i + 1)
    rw [List.drop_eq_getElem_cons hi]
    have hrd : rd_T59 xs (i : Int) = xs[i] := getD_at _ hi
    rw [spec_BestOf.l0, if_pos (by omega), spec_BestOf.j1, if_pos (by simp; omega), if_pos (by omega), if_pos (by omega), w, hrd]
    show _ = some (tup (bestL vni mac (xs.drop (i + 1)) (bestStep vni mac xs[i] b)))
    generalize xs[i] = r at *
    unfold bestStep
    by_cases h2 : r.f0 = 2
    · rw [if_pos h2]
      by_cases h3 : r.f1 = vni
      · rw [if_pos h3]
        by_cases h4 : r.f2 = mac
        · rw [if_pos h4, s_routeRight, Option.bind_some]
          by_cases h5 : routeOk r.f0 r.f1 r.f2 r.f3 r.f4 r.f5 r.f6 = true
          · rw [if_pos h5, s_bet, Option.bind_some]
            by_cases h6 : b.f0 = 0
            · rw [if_pos h6, if_pos ⟨h5, h2, h3, h4, .inl h6⟩]; exact ih (k + 1) (i + 1) r (by omega) (by omega)
            · rw [if_neg h6]
              by_cases h7 : betB r.f4 r.f5 r.f6 b.f4 b.f5 b.f6 = true
              · rw [if_pos h7, if_pos ⟨h5, h2, h3, h4, .inr h7⟩]; exact ih (k + 1) (i + 1) r (by omega) (by omega)
              · rw [if_neg h7, if_neg (fun hh => hh.2.2.2.2.elim h6 h7)]; exact ih (k + 1) (i + 1) b (by omega) (by omega)
          · rw [if_neg h5, if_neg (fun hh => h5 hh.1)]; exact ih (k + 1) (i + 1) b (by omega) (by omega)
        · rw [if_neg h4, if_neg (fun hh => h4 hh.2.2.2.1)]; exact ih (k + 1) (i + 1) b (by omega) (by omega)
      · rw [if_neg h3, if_neg (fun hh => h3 hh.2.2.1)]; exact ih (k + 1) (i + 1) b (by omega) (by omega)
    · rw [if_neg h2, if_neg (fun hh => h2 hh.2.1)]; exact ih (k + 1) (i + 1) b (by omega) (by omega)
theorem i_best_l0 (vni mac : Int) (xs : List S59) (hm : xs.length ≤ 400) : ∀ (d k i : Nat) (b : S59), xs.length = i + d → bestInv vni mac b → d + 4 ≤ k →
    impl_best.l0 k vni mac xs (xs.length : Int) (i : Int) b.f0 b.f1 b.f2 b.f3 b.f4 b.f5 b.f6 = some (tup (bestL vni mac (xs.drop i) b)) := by
  intro d
  induction d with
  | zero =>
    intro k i b h1 _ hk
    obtain ⟨k, rfl⟩ : ∃ m, k = m + 1 := ⟨k - 1, by omega⟩
    simp only [impl_best.l0]
    rw [if_neg (by omega), List.drop_eq_nil_of_le (by omega)]; rfl
  | succ d ih =>
    intro k i b h1 hinv hk
    obtain ⟨k, rfl⟩ : ∃ m, k = m + 2 := ⟨k - 2, by omega⟩
    have w : wrap64 ((i : Int) + 1) = ((i + 1 : Nat) : Int) := wrap64_id (by omega) (by omega)
    have hi : i < xs.length := by omega
    rw [List.drop_eq_getElem_cons hi]
    have hrd : rd_T59 xs (i : Int) = xs[i] := getD_at _ hi
    rw [impl_best.l0, if_pos (by omega), if_pos (by omega), if_pos (by omega), w, hrd]
    show _ = some (tup (bestL vni mac (xs.drop (i + 1)) (bestStep vni mac xs[i] b)))
    have hinv' := bestInv_step (r := xs[i]) hinv
    generalize xs[i] = r at *
    rw [i_routeRight, Option.bind_some]
    unfold bestStep at *
    by_cases h5 : routeOk r.f0 r.f1 r.f2 r.f3 r.f4 r.f5 r.f6 = true
    · rw [if_pos h5]
      by_cases h2 : r.f0 = 2
      · rw [if_pos h2]
        by_cases h3 : r.f1 = vni
        · rw [if_pos h3]
          by_cases h4 : r.f2 = mac
          · rw [if_pos h4, i_better, Option.bind_some]
            rcases hinv with rfl | ⟨g1, g2, g3, g4⟩
            · rw [if_pos (by simp [z59]), if_pos ⟨h5, h2, h3, h4, .inl rfl⟩]
              rw [if_pos ⟨h5, h2, h3, h4, .inl rfl⟩] at hinv'
              exact ih (k + 1) (i + 1) r (by omega) hinv' (by omega)
            · have e0 : (b.f0 == 0 && (b.f1 == 0 && (b.f2 == 0 && (b.f3 == 0 && (b.f4 == 0 && (b.f5 == 0 && (!b.f6))))))) = false := by rw [g2]; rfl
              rw [if_neg (by rw [e0]; simp)]
              have eb : betterOk r.f0 r.f1 r.f2 r.f3 r.f4 r.f5 r.f6 b.f0 b.f1 b.f2 b.f3 b.f4 b.f5 b.f6 = betB r.f4 r.f5 r.f6 b.f4 b.f5 b.f6 := by
                unfold betterOk
                rw [h5, g1, h2, g2, h3, g3, h4, g4]; simp
              rw [eb]
              by_cases h7 : betB r.f4 r.f5 r.f6 b.f4 b.f5 b.f6 = true
              · rw [if_pos h7, if_pos ⟨h5, h2, h3, h4, .inr h7⟩]
                rw [if_pos ⟨h5, h2, h3, h4, .inr h7⟩] at hinv'
                exact ih (k + 1) (i + 1) r (by omega) hinv' (by omega)
              · have hn : ¬ (routeOk r.f0 r.f1 r.f2 r.f3 r.f4 r.f5 r.f6 = true ∧ r.f0 = 2 ∧ r.f1 = vni ∧ r.f2 = mac ∧ (b.f0 = 0 ∨ betB r.f4 r.f5 r.f6 b.f4 b.f5 b.f6 = true)) := fun hh => hh.2.2.2.2.elim (by omega) h7
                rw [if_neg h7, if_neg hn]
                rw [if_neg hn] at hinv'
                exact ih (k + 1) (i + 1) b (by omega) hinv' (by omega)
          · rw [if_neg h4, if_neg (fun hh => h4 hh.2.2.2.1)]; exact ih (k + 1) (i + 1) b (by omega) hinv (by omega)
        · rw [if_neg h3, if_neg (fun hh => h3 hh.2.2.1)]; exact ih (k + 1) (i + 1) b (by omega) hinv (by omega)
      · rw [if_neg h2, if_neg (fun hh => h2 hh.2.1)]; exact ih (k + 1) (i + 1) b (by omega) hinv (by omega)
    · rw [if_neg h5, if_neg (fun hh => h5 hh.1)]; exact ih (k + 1) (i + 1) b (by omega) hinv (by omega)
def bestOf (vni mac : Int) (xs : List S59) : S59 := if (xs.length : Int) > 400 then z59 else bestL vni mac xs z59
theorem s_bestOf (k : Nat) (vni mac : Int) (xs : List S59) (hk : 2 * xs.length + 4 ≤ k) : spec_BestOf.f k xs vni mac = some (tup (bestOf vni mac xs)) := by
  unfold spec_BestOf.f bestOf
  by_cases h : (xs.length : Int) > 400
  · rw [if_pos h]
    obtain ⟨k, rfl⟩ : ∃ m, k = m + 2 := ⟨k - 2, by omega⟩
    simp only [spec_BestOf.l0, spec_BestOf.j1]
    rw [if_pos (by omega), if_neg (by simp; omega)]; rfl
  · rw [if_neg h]
    have e := s_best_l0 vni mac xs (by omega) xs.length k 0 z59 (by omega) hk
    rw [List.drop_zero] at e
    exact e
theorem i_bestOf (k : Nat) (vni mac : Int) (xs : List S59) (hk : xs.length + 4 ≤ k) : impl_BestOf.f k xs vni mac = some (tup (bestOf vni mac xs)) := by
  unfold impl_BestOf.f bestOf
  by_cases h : (xs.length : Int) > 400
  · rw [if_pos h, if_pos h]; rfl
  · rw [if_neg h, if_neg h]
    have e := i_best_l0 vni mac xs (by omega) xs.length k 0 z59 (by omega) (.inl rfl) hk
    rw [List.drop_zero] at e
    unfold impl_best.f
    rw [show impl_best.l0 k vni mac xs (xs.length : Int) 0 0 0 0 0 0 0 false = some (tup (bestL vni mac xs z59)) from e]
    rfl

theorem FnExactBestOf : laws_FnExactBestOf.Pure := by
  intro l vni mac ⟨hl, _⟩ _ _
  refine ⟨2 * l.length + 4, ?_⟩
  unfold laws_FnExactBestOf.f
  rw [szRouteS_ok l hl, Option.bind_some]
  by_cases h : l.length ≤ 1048576
  · have hm : (l.map convRt).length = l.length := List.length_map _
    rw [if_pos h, if_neg (by omega), toRouteS_ok _ l (by omega) h]
    simp only [Option.bind_some]
    rw [s_bestOf _ _ _ _ (by omega), i_bestOf _ _ _ _ (by omega)]
    simp only [Option.bind_some]
    rw [eqRouteS_refl _ _ (by omega) (by omega), eqRoute_refl]
    simp
  · rw [if_neg h, if_pos (by omega)]

end Go.Proofs.Ytkbhdiambabnnaa.Pure
