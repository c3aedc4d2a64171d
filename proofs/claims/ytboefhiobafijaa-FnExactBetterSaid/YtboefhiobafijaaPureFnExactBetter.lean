/- The plain law of FnExactBetter: for all arguments that fit the guards its printed function answers true. -/
import Derived.Test.YtboefhiobafijaaPFnExactBetterx
set_option linter.unusedVariables false
set_option linter.unusedSimpArgs false
namespace Go.Proofs.Ytboefhiobafijaa.Pure
open Go.RowKit Go.Proofs.Ytboefhiobafijaa.PFnExactBetter Go.Proofs.YtboefhiobafijaaW.PrintWords Go.Proofs.YtboefhiobafijaaW.PrintLast Go.Proofs.YtboefhiobafijaaW.PrintMore

theorem s_is (a b c : Int) : spec_l02Is.f a b c = some (decide (b ≤ a ∧ a ≤ c)) := by
  unfold spec_l02Is.f; by_cases h : a ≥ b
  · rw [if_pos h]; by_cases h2 : a ≤ c <;> simp [h, h2]
  · rw [if_neg h]; congr 1; symm; apply decide_eq_false; omega
theorem i_in (a b c : Int) : impl_in.f a b c = some (decide (b ≤ a ∧ a ≤ c)) := by
  unfold impl_in.f; by_cases h : b ≤ a
  · rw [if_pos h]; by_cases h2 : a ≤ c <;> simp [h, h2]
  · rw [if_neg h]; congr 1; symm; apply decide_eq_false; omega

def grp (m : Int) : Bool := decide (0 ≤ m ∧ m ≤ 281474976710655) && (Go.bits .and .i64 (m / 1099511627776) 1 == 1)
theorem s_grp (m : Int) : spec_IsGroup.f m = some (grp m) := by
  unfold spec_IsGroup.f spec_l02Mac.f grp
  simp only [s_is, Option.bind_some]
  by_cases h : 0 ≤ m ∧ m ≤ 281474976710655 <;> simp [h]
theorem i_grp (m : Int) : impl_IsGroup.f m = some (grp m) := by
  unfold impl_IsGroup.f impl_isMac.f grp
  simp only [i_in, Option.bind_some]
  by_cases h : 0 ≤ m ∧ m ≤ 281474976710655 <;> simp [h]
def routeOk (k v m ip o s : Int) (st : Bool) : Bool :=
  decide (1 ≤ v ∧ v ≤ 16777215) && decide (1 ≤ o ∧ o ≤ 4) &&
    ((decide (k = 2) && (decide (0 ≤ m ∧ m ≤ 281474976710655) && (!grp m) && decide (0 ≤ ip ∧ ip ≤ 4294967295) && decide (0 ≤ s ∧ s ≤ 1000000))) ||
     (decide (k = 3) && (decide (m = 0) && decide (ip = 0) && decide (s = 0) && !st)))
theorem s_routeRight (n : Nat) (k v m ip o s : Int) (st : Bool) : spec_RouteRight.f (n + 1) k v m ip o s st = some (routeOk k v m ip o s st) := by
  unfold spec_RouteRight.f spec_l02Vni.f routeOk
  simp only [s_is, Option.bind_some, spec_RouteRight.j0, s_grp, spec_l02Mac.f, spec_l02Ip.f]
  by_cases h1 : 1 ≤ v ∧ v ≤ 16777215
  · by_cases h2 : 1 ≤ o ∧ o ≤ 4
    · by_cases hk : k = 2
      · subst hk
        by_cases h3 : 0 ≤ m ∧ m ≤ 281474976710655
        · cases hg : grp m
          · by_cases h4 : 0 ≤ ip ∧ ip ≤ 4294967295 <;> simp [h1, h2, h3, h4]
          · simp [h1, h2, h3]
        · simp [h1, h2, h3]
      · by_cases hk3 : k = 3
        · subst hk3
          by_cases h3 : m = 0
          · by_cases h4 : ip = 0
            · by_cases h5 : s = 0 <;> simp [h1, h2, h3, h4, h5]
            · simp [h1, h2, h3, h4]
          · simp [h1, h2, h3]
        · simp [h1, h2, hk, hk3]
    · simp [h1, h2]
  · simp [h1]
theorem i_routeRight (n : Nat) (k v m ip o s : Int) (st : Bool) : impl_RouteRight.f (n + 1) k v m ip o s st = some (routeOk k v m ip o s st) := by
  unfold impl_RouteRight.f impl_isVni.f impl_isHouse.f routeOk
  simp only [i_in, Option.bind_some, impl_RouteRight.j0, i_grp, impl_isGuest.f, impl_isMac.f, impl_isIp.f, impl_isTime.f]
  by_cases h1 : 1 ≤ v ∧ v ≤ 16777215
  · by_cases h2 : 1 ≤ o ∧ o ≤ 4
    · by_cases hk : k = 2
      · subst hk
        by_cases h3 : 0 ≤ m ∧ m ≤ 281474976710655
        · cases hg : grp m
          · by_cases h4 : 0 ≤ ip ∧ ip ≤ 4294967295 <;> simp [h1, h2, h3, h4]
          · simp [h1, h2, h3]
        · simp [h1, h2, h3]
      · by_cases hk3 : k = 3
        · subst hk3
          by_cases h3 : m = 0
          · by_cases h4 : ip = 0
            · by_cases h5 : s = 0 <;> simp [h1, h2, h3, h4, h5]
            · simp [h1, h2, h3, h4]
          · simp [h1, h2, h3]
        · simp [h1, h2, hk, hk3]
    · simp [h1, h2]
  · simp [h1]

def betB (o s : Int) (st : Bool) (o' s' : Int) (st' : Bool) : Bool := if (st != st') = true then st else (if s = s' then decide (o < o') else decide (s > s'))
def betterOk (k v m ip o s : Int) (st : Bool) (k' v' m' ip' o' s' : Int) (st' : Bool) : Bool :=
  routeOk k v m ip o s st && (routeOk k' v' m' ip' o' s' st' && (decide (k = 2) && (decide (k' = 2) && (decide (v = v') && (decide (m = m') && betB o s st o' s' st')))))
theorem s_bet (k v m ip o s : Int) (st : Bool) (k' v' m' ip' o' s' : Int) (st' : Bool) : spec_l03Better.f k v m ip o s st k' v' m' ip' o' s' st' = some (betB o s st o' s' st') := by
  unfold spec_l03Better.f betB
  by_cases h : (st != st') = true
  · rw [if_pos h, if_pos h]
  · rw [if_neg h, if_neg h]; split <;> rfl
theorem s_better (n : Nat) (k v m ip o s : Int) (st : Bool) (k' v' m' ip' o' s' : Int) (st' : Bool) : spec_Better.f (n + 1) k v m ip o s st k' v' m' ip' o' s' st' = some (betterOk k v m ip o s st k' v' m' ip' o' s' st') := by
  unfold spec_Better.f betterOk
  simp only [s_routeRight, s_bet, Option.bind_some]
  by_cases h1 : routeOk k v m ip o s st = true
  · by_cases h2 : routeOk k' v' m' ip' o' s' st' = true
    · by_cases h3 : k = 2
      · by_cases h4 : k' = 2
        · by_cases h5 : v = v'
          · by_cases h6 : m = m'
            · rw [if_pos h1, if_pos h2, if_pos h3, if_pos h4, if_pos h5, if_pos h6, h1, h2]; simp [h3, h4, h5, h6]
            · simp [h1, h2, h3, h4, h5, h6]
          · simp [h1, h2, h3, h4, h5]
        · simp [h1, h2, h3, h4]
      · simp [h1, h2, h3]
    · simp [h1, h2]
  · simp [h1]
theorem i_betj (n : Nat) (b : Bool) (k v m ip o s : Int) (st : Bool) (k' v' m' ip' o' s' : Int) (st' : Bool) : impl_Better.j0 (n + 1) b k v m ip o s st k' v' m' ip' o' s' st' = some (!b && betB o s st o' s' st') := by
  simp only [impl_Better.j0]
  unfold betB
  cases b
  · by_cases h : (st != st') = true
    · rw [if_neg (by simp), if_pos h, if_pos h]; rfl
    · rw [if_neg (by simp), if_neg h, if_neg h]; split <;> simp
  · simp
theorem i_better (n : Nat) (k v m ip o s : Int) (st : Bool) (k' v' m' ip' o' s' : Int) (st' : Bool) : impl_Better.f (n + 1) k v m ip o s st k' v' m' ip' o' s' st' = some (betterOk k v m ip o s st k' v' m' ip' o' s' st') := by
  unfold impl_Better.f betterOk
  simp only [i_routeRight, i_betj, Option.bind_some]
  by_cases h1 : routeOk k v m ip o s st = true
  · by_cases h2 : routeOk k' v' m' ip' o' s' st' = true
    · by_cases h3 : k = 2
      · by_cases h4 : k' = 2
        · by_cases h5 : v = v'
          · by_cases h6 : m = m'
            · rw [if_pos h1, if_pos h2, if_pos h3, if_pos h4, if_pos h5, h1, h2]; simp [h3, h4, h5, h6]
            · simp [h1, h2, h3, h4, h5, h6]
          · simp [h1, h2, h3, h4, h5]
        · simp [h1, h2, h3, h4]
      · simp [h1, h2, h3]
    · simp [h1, h2]
  · simp [h1]

theorem FnExactBetter : laws_FnExactBetter.Pure := by
  intro k v m ip o s st k' v' m' ip' o' s' st' _ _ _ _ _ _ _ _ _ _ _ _
  refine ⟨1, ?_⟩
  unfold laws_FnExactBetter.f laws_toRoute.f
  simp [s_better, i_better]

end Go.Proofs.Ytboefhiobafijaa.Pure
