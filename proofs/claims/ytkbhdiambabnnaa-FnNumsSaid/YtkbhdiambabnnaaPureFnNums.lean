/- The plain law of FnNums: for all arguments that fit the guards its printed function answers true. -/
import Derived.Test.YtkbhdiambabnnaaPFnNumsx
set_option linter.unusedVariables false
set_option linter.unusedSimpArgs false
namespace Go.Proofs.Ytkbhdiambabnnaa.Pure
open Go.RowKit Go.Proofs.Ytkbhdiambabnnaa.PFnNums Go.Proofs.YtkbhdiambabnnaaW.PrintWords Go.Proofs.YtkbhdiambabnnaaW.PrintLast Go.Proofs.YtkbhdiambabnnaaW.PrintMore

theorem bits_xor_nat (k : IntKind) (a b : Nat) : Go.bits .xor k a b = k.wrap (((a % 2 ^ k.bits) ^^^ (b % 2 ^ k.bits) : Nat) : Int) := by
  simp only [Go.bits, BitVec.ofInt_natCast, BitVec.toNat_xor, BitVec.toNat_ofNat]
theorem bits_or_nat (k : IntKind) (a b : Nat) : Go.bits .or k a b = k.wrap (((a % 2 ^ k.bits) ||| (b % 2 ^ k.bits) : Nat) : Int) := by
  simp only [Go.bits, BitVec.ofInt_natCast, BitVec.toNat_or, BitVec.toNat_ofNat]
theorem bits_and_nat (k : IntKind) (a b : Nat) : Go.bits .and k a b = k.wrap (((a % 2 ^ k.bits) &&& (b % 2 ^ k.bits) : Nat) : Int) := by
  simp only [Go.bits, BitVec.ofInt_natCast, BitVec.toNat_and, BitVec.toNat_ofNat]
theorem wrap_u64 (n : Int) : IntKind.u64.wrap n = n % 18446744073709551616 := by simp [IntKind.wrap, IntKind.bits, IntKind.signed]
theorem wf_i64 {n : Int} (h : (Lit.int .i64 n).wf = true) : -9223372036854775808 ≤ n ∧ n ≤ 9223372036854775807 := by
  simp [Lit.wf, IntKind.signed, IntKind.bits, IntKind.min, IntKind.max] at h
  omega
theorem xor_ones (x : Nat) (h : x < 18446744073709551616) : x ^^^ 18446744073709551615 = 18446744073709551615 - x := by
  have e := BitVec.toNat_not (x := BitVec.ofNat 64 x)
  rw [← BitVec.xor_allOnes, BitVec.toNat_xor, BitVec.toNat_allOnes, BitVec.toNat_ofNat] at e
  rw [Nat.mod_eq_of_lt (by simpa using h)] at e
  simpa using e
theorem wrap64_id {x : Int} (h0 : -9223372036854775808 ≤ x) (h1 : x ≤ 9223372036854775807) : wrap64 x = x := by unfold wrap64; omega
theorem u64_id {x : Int} (h0 : 0 ≤ x) (h1 : x < 18446744073709551616) : IntKind.u64.wrap x = x := by rw [wrap_u64]; omega
theorem tmod_nat (a b : Nat) : Int.tmod (a : Int) (b : Int) = ((a % b : Nat) : Int) := by rw [Int.tmod_eq_emod_of_nonneg (by omega)]; simp
theorem tdiv_nat (a b : Nat) : Int.tdiv (a : Int) (b : Int) = ((a / b : Nat) : Int) := by rw [Int.tdiv_eq_ediv_of_nonneg (by omega)]; simp

def unzz (u : Nat) : Int := if u % 2 = 1 then -((u / 2 : Nat) : Int) - 1 else ((u / 2 : Nat) : Int)
def gdec : Nat → ByteArray → Int → Nat → Nat → Int × Int × Int
  | 0, _, _, _, _ => (0, 0, 3)
  | f + 1, s, a, i, u =>
    if a + i ≥ (s.size : Int) then (0, 0, 4)
    else if i = 9 ∧ bt s (a + i) > 1 then (0, 0, 3)
    else if bt s (a + i) ≥ 128 then gdec f s a (i + 1) (u + (bt s (a + i)).toNat % 128 * 2 ^ (7 * i))
    else if bt s (a + i) = 0 ∧ i > 0 then (0, 0, 3)
    else (unzz (u + (bt s (a + i)).toNat % 128 * 2 ^ (7 * i)), a + i + 1, 0)
def gnum (s : ByteArray) (a : Int) : Int × Int × Int := if (s.size : Int) > 8000 then (0, 0, 2) else if a < 0 then (0, 0, 1) else gdec 10 s a 0 0
theorem pow7 (i : Nat) (hi : i ≤ 9) : (2 : Nat) ^ (7 * i) ≤ 9223372036854775808 := by
  have := Nat.pow_le_pow_right (n := 2) (by decide) (show 7 * i ≤ 63 by omega)
  rwa [show (2 : Nat) ^ 63 = 9223372036854775808 from by decide] at this
theorem pow7s (i : Nat) : (2 : Nat) ^ (7 * (i + 1)) = 128 * 2 ^ (7 * i) := by
  rw [Nat.mul_add, Nat.pow_add, Nat.mul_comm]
/-- One more group fits. -/
theorem group_lt {u c i : Nat} (hi : i ≤ 9) (hu : u < 2 ^ (7 * i)) (hc : i = 9 → c ≤ 1) : c % 128 * 2 ^ (7 * i) < 18446744073709551616 ∧ u + c % 128 * 2 ^ (7 * i) < 18446744073709551616 ∧ (i < 9 → u + c % 128 * 2 ^ (7 * i) < 2 ^ (7 * (i + 1))) := by
  have hm : c % 128 < 128 := Nat.mod_lt _ (by decide)
  rcases Nat.lt_or_ge i 9 with h | h
  · have h8 : (2 : Nat) ^ (7 * i) ≤ 72057594037927936 := by
      have := Nat.pow_le_pow_right (n := 2) (by decide) (show 7 * i ≤ 56 by omega)
      rwa [show (2 : Nat) ^ 56 = 72057594037927936 from by decide] at this
    have hs := pow7s i
    rw [hs]
    have h1 : c % 128 * 2 ^ (7 * i) ≤ 127 * 2 ^ (7 * i) := Nat.mul_le_mul_right _ (by omega)
    generalize 2 ^ (7 * i) = z at *
    generalize c % 128 * z = y at *
    omega
  · obtain rfl : i = 9 := by omega
    have hc := hc rfl
    have e : c % 128 = c := Nat.mod_eq_of_lt (by omega)
    have e9 : (2 : Nat) ^ (7 * 9) = 9223372036854775808 := by decide
    have h1 : c % 128 * 2 ^ (7 * 9) ≤ 9223372036854775808 := by
      rw [e, e9]; exact Nat.le_trans (Nat.mul_le_mul_right _ hc) (by decide)
    rw [e9] at hu
    generalize c % 128 * 2 ^ (7 * 9) = y at *
    clear e e9
    exact ⟨by omega, by omega, fun h => absurd h (by omega)⟩
theorem shl_u64 {x i : Nat} (hi : i ≤ 9) (hx : x * 2 ^ (7 * i) < 18446744073709551616) {y : Int} (hy : y = 7 * (i : Int)) : shl .u64 (x : Int) y = ((x * 2 ^ (7 * i) : Nat) : Int) := by
  subst hy
  unfold shl
  have hb : IntKind.u64.bits = 64 := rfl
  have e : min (7 * (i : Int)).toNat 64 = 7 * i := by omega
  rw [hb, e, wrap_u64]
  have e2 : (x : Int) * 2 ^ (7 * i) = ((x * 2 ^ (7 * i) : Nat) : Int) := by simp
  rw [e2]
  omega

def vi : Nat → Nat → List Int
  | 0, _ => []
  | f + 1, u => if u < 128 then [(u : Int)] else ((u % 128 + 128 : Nat) : Int) :: vi f (u / 128)
def zz (n : Int) : Nat := (if n < 0 then -2 * n - 1 else 2 * n).toNat
def encN (n : Int) : ByteArray := strOfNums (vi 10 (zz n))
theorem zz_lt {n : Int} (h : -9223372036854775808 ≤ n ∧ n ≤ 9223372036854775807) : zz n < 18446744073709551616 := by
  unfold zz; split <;> omega
theorem zz_cast (n : Int) : (zz n : Int) = if n < 0 then -2 * n - 1 else 2 * n := by
  unfold zz; split <;> omega
theorem pow128 : (128 : Nat) ^ 10 = 1180591620717411303424 := by decide

theorem vi_len : ∀ (f u : Nat), (vi f u).length ≤ f
  | 0, _ => by simp [vi]
  | f + 1, u => by
    rw [vi]; split
    · simp
    · have := vi_len f (u / 128); simp; omega
theorem str_size (xs : List Int) : (strOfNums xs).size = xs.length := by simp [strOfNums, ByteArray.size]
theorem encN_size (n : Int) : (encN n).size ≤ 10 := by
  unfold encN; rw [str_size]; exact vi_len _ _

theorem unzz_zz (n : Int) : unzz (zz n) = n := by
  have h := zz_cast n
  unfold unzz
  by_cases hn : n < 0
  · rw [if_pos hn] at h; rw [if_pos (by omega)]; omega
  · rw [if_neg hn] at h; rw [if_neg (by omega)]; omega
theorem vi_byte : ∀ (f u : Nat) (c : Int), c ∈ vi f u → 0 ≤ c ∧ c < 256
  | 0, _, c, h => by simp [vi] at h
  | f + 1, u, c, h => by
    rw [vi] at h
    by_cases hu : u < 128
    · rw [if_pos hu] at h; simp only [List.mem_singleton] at h; omega
    · rw [if_neg hu, List.mem_cons] at h
      rcases h with h | h
      · omega
      · exact vi_byte f _ c h
theorem vi_pos (f u : Nat) : 0 < (vi (f + 1) u).length := by
  rw [vi]; split <;> simp
theorem bt_of (s : ByteArray) (i : Int) : bt s i = (bytesOf s).getD i.toNat 0 := by
  unfold bt bytesOf
  by_cases h : i.toNat < s.size
  · rw [dif_pos h, List.getD_eq_getElem?_getD, List.getElem?_map, List.getElem?_eq_getElem (show i.toNat < s.data.toList.length from h)]
    rfl
  · rw [dif_neg h, List.getD_eq_getElem?_getD, List.getElem?_eq_none (by rw [List.length_map]; exact Nat.le_of_not_lt h)]
    rfl
theorem bytes_app (a b : ByteArray) : bytesOf (a ++ b) = bytesOf a ++ bytesOf b := by simp [bytesOf]
theorem bytes_str {xs : List Int} (h : ∀ c ∈ xs, 0 ≤ c ∧ c < 256) : bytesOf (strOfNums xs) = xs := by
  unfold bytesOf strOfNums
  simp only [List.map_map]
  have : ∀ c ∈ xs, ((fun b : UInt8 => (b.toNat : Int)) ∘ fun n : Int => UInt8.ofNat n.toNat) c = id c := by
    intro c hc
    have := h c hc
    simp only [Function.comp, id, UInt8.toNat_ofNat']
    omega
  rw [List.map_congr_left this, List.map_id]
theorem bytes_len (s : ByteArray) : (bytesOf s).length = s.size := by
  unfold bytesOf; rw [List.length_map]; rfl
theorem bytes_ext (s : ByteArray) (b : Nat) : bytesOf (s.extract 0 b) = (bytesOf s).take b := by
  unfold bytesOf
  rw [ByteArray.data_extract, Array.toList_extract]
  simp [List.map_take]
theorem bytes_encN (n : Int) : bytesOf (encN n) = vi 10 (zz n) := bytes_str (fun c h => vi_byte _ _ c h)
theorem split128 (v z : Nat) : v % 128 * z + v / 128 * (128 * z) = v * z := by
  have h := Nat.mod_add_div v 128
  calc v % 128 * z + v / 128 * (128 * z) = (v % 128 + 128 * (v / 128)) * z := by rw [Nat.add_mul, Nat.mul_comm 128 (v / 128), Nat.mul_assoc]
    _ = v * z := by rw [h]
theorem last_group {v : Nat} (h : v * 2 ^ (7 * 9) < 18446744073709551616) : v ≤ 1 := by
  rw [show (2 : Nat) ^ (7 * 9) = 9223372036854775808 from by decide] at h; omega
theorem no_group {v : Nat} (h : v * 2 ^ (7 * 10) < 18446744073709551616) : v = 0 := by
  rw [show (2 : Nat) ^ (7 * 10) = 1180591620717411303424 from by decide] at h; omega
theorem next_group {v i : Nat} (h : v * 2 ^ (7 * i) < 18446744073709551616) : v / 128 * 2 ^ (7 * (i + 1)) < 18446744073709551616 := by
  have e := split128 v (2 ^ (7 * i))
  rw [pow7s]
  generalize v * 2 ^ (7 * i) = p at *
  generalize v / 128 * (128 * 2 ^ (7 * i)) = q at *
  generalize v % 128 * 2 ^ (7 * i) = r at *
  omega
theorem gdec_vi (s : ByteArray) (a : Int) : ∀ (f i u v : Nat), i + f = 10 → v * 2 ^ (7 * i) < 18446744073709551616 → (i > 0 → v > 0) →
    (∀ j : Nat, j < (vi f v).length → a + (i + j : Nat) < (s.size : Int) ∧ bt s (a + (i + j : Nat)) = (vi f v).getD j 0) →
    gdec f s a i u = (unzz (u + v * 2 ^ (7 * i)), a + (i : Int) + ((vi f v).length : Int), 0) := by
  intro f
  induction f with
  | zero =>
    intro i u v hi hv hp _
    obtain rfl : i = 10 := by omega
    have := no_group hv
    exact absurd (hp (by omega)) (by omega)
  | succ f ih =>
    intro i u v hi hv hp H
    have h0 := H 0 (vi_pos f v)
    rw [Nat.add_zero] at h0
    obtain ⟨h1, h2⟩ := h0
    have h9 : i = 9 → v ≤ 1 := by
      intro h; subst h; exact last_group hv
    rw [gdec, if_neg (by omega)]
    by_cases hu : v < 128
    · have e : vi (f + 1) v = [(v : Int)] := by rw [vi, if_pos hu]
      rw [e] at h2 ⊢
      have h3 : bt s (a + (i : Int)) = (v : Int) := h2
      rw [h3, if_neg (by omega), if_neg (by omega), if_neg (by omega), Int.toNat_natCast, Nat.mod_eq_of_lt hu]
      rfl
    · have e : vi (f + 1) v = ((v % 128 + 128 : Nat) : Int) :: vi f (v / 128) := by rw [vi, if_neg hu]
      rw [e] at h2 H ⊢
      have h3 : bt s (a + (i : Int)) = ((v % 128 + 128 : Nat) : Int) := h2
      rw [h3, if_neg (by omega), if_pos (by omega), Int.toNat_natCast]
      have e1 : (v % 128 + 128) % 128 = v % 128 := by omega
      rw [e1, ih (i + 1) _ (v / 128) (by omega) (next_group hv) (by omega) (by
        intro j hj
        have := H (j + 1) (by simpa using hj)
        rw [show i + (j + 1) = i + 1 + j from by omega] at this
        simpa using this)]
      have e2 := split128 v (2 ^ (7 * i))
      rw [← pow7s] at e2
      rw [Nat.add_assoc, e2, List.length_cons]
      congr 2
      omega
theorem gdec_short (s : ByteArray) (a : Int) : ∀ (f i u v : Nat), i + f = 10 → v * 2 ^ (7 * i) < 18446744073709551616 → (i > 0 → v > 0) →
    (s.size : Int) = a + (i : Int) + (((vi f v).length - 1 : Nat) : Int) →
    (∀ j : Nat, j < (vi f v).length - 1 → bt s (a + (i + j : Nat)) = (vi f v).getD j 0) →
    gdec f s a i u = (0, 0, 4) := by
  intro f
  induction f with
  | zero =>
    intro i u v hi hv hp _ _
    obtain rfl : i = 10 := by omega
    have := no_group hv
    exact absurd (hp (by omega)) (by omega)
  | succ f ih =>
    intro i u v hi hv hp hs H
    have h9 : i = 9 → v ≤ 1 := by
      intro h; subst h; exact last_group hv
    by_cases hu : v < 128
    · have e : vi (f + 1) v = [(v : Int)] := by rw [vi, if_pos hu]
      rw [e] at hs
      rw [gdec, if_pos (by simp at hs; omega)]
    · have e : vi (f + 1) v = ((v % 128 + 128 : Nat) : Int) :: vi f (v / 128) := by rw [vi, if_neg hu]
      obtain ⟨f, rfl⟩ : ∃ q, f = q + 1 := ⟨f - 1, by omega⟩
      have hl := vi_pos f (v / 128)
      rw [e] at H hs
      simp only [List.length_cons, Nat.add_sub_cancel] at H hs
      have h3 : bt s (a + (i : Int)) = ((v % 128 + 128 : Nat) : Int) := H 0 hl
      rw [gdec, if_neg (by omega), h3, if_neg (by omega), if_pos (by omega)]
      exact ih (i + 1) _ (v / 128) (by omega) (next_group hv) (by omega) (by omega) (by
        intro j hj
        have := H (j + 1) (by omega)
        rw [show i + (j + 1) = i + 1 + j from by omega] at this
        simpa using this)
/-- A number that stands somewhere in a text is got from there. -/
theorem gnum_at {s : ByteArray} {a n : Int} (hs : (s.size : Int) ≤ 8000) (ha : 0 ≤ a) (hn : -9223372036854775808 ≤ n ∧ n ≤ 9223372036854775807)
    (H : ∀ j : Nat, j < (vi 10 (zz n)).length → a + (j : Int) < (s.size : Int) ∧ bt s (a + (j : Int)) = (vi 10 (zz n)).getD j 0) :
    gnum s a = (n, a + ((encN n).size : Int), 0) := by
  have hz := zz_lt hn
  unfold gnum
  rw [if_neg (by omega), if_neg (by omega), gdec_vi s a 10 0 0 (zz n) (by omega) (by simpa using hz) (by omega) (by simpa using H)]
  unfold encN
  rw [str_size]
  simp [unzz_zz]
theorem gnum_short {s : ByteArray} {n : Int} (hn : -9223372036854775808 ≤ n ∧ n ≤ 9223372036854775807) (hs : s.size = (vi 10 (zz n)).length - 1)
    (H : ∀ j : Nat, j < (vi 10 (zz n)).length - 1 → bt s (j : Int) = (vi 10 (zz n)).getD j 0) :
    gnum s 0 = (0, 0, 4) := by
  have hz := zz_lt hn
  have hl := vi_len 10 (zz n)
  unfold gnum
  rw [if_neg (by omega), if_neg (by omega), gdec_short s 0 10 0 0 (zz n) (by omega) (by simpa using hz) (by omega) (by omega) (by simpa using H)]
theorem bt_mid (p q : ByteArray) (n : Int) (j : Nat) (h : j < (vi 10 (zz n)).length) : bt ((p ++ encN n) ++ q) ((p.size : Int) + (j : Int)) = (vi 10 (zz n)).getD j 0 := by
  rw [bt_of, bytes_app, bytes_app, bytes_encN]
  have hl := bytes_len p
  have e : ((p.size : Int) + (j : Int)).toNat = p.size + j := by omega
  rw [e, List.getD_eq_getElem?_getD, List.getD_eq_getElem?_getD, List.append_assoc, List.getElem?_append_right (by omega), hl, Nat.add_sub_cancel_left, List.getElem?_append_left h]
theorem encN_len (n : Int) : (encN n).size = (vi 10 (zz n)).length := by unfold encN; rw [str_size]
theorem gnum_mid {p q : ByteArray} {n : Int} (hs : (((p ++ encN n) ++ q).size : Int) ≤ 8000) (hn : -9223372036854775808 ≤ n ∧ n ≤ 9223372036854775807) :
    gnum ((p ++ encN n) ++ q) (p.size : Int) = (n, (p.size : Int) + ((encN n).size : Int), 0) := by
  have e : ((p ++ encN n) ++ q).size = p.size + (encN n).size + q.size := by simp
  have e2 := encN_len n
  exact gnum_at hs (by omega) hn (fun j hj => ⟨by omega, bt_mid p q n j hj⟩)
theorem gnum_cut {n : Int} (hn : -9223372036854775808 ≤ n ∧ n ≤ 9223372036854775807) (m : Nat) (hm : m = (encN n).size - 1) : gnum ((encN n).extract 0 m) 0 = (0, 0, 4) := by
  subst hm
  have hl := encN_len n
  refine gnum_short hn (by rw [ByteArray.size_extract]; omega) ?_
  intro j hj
  rw [bt_of, bytes_ext, bytes_encN, Int.toNat_natCast, List.getD_eq_getElem?_getD, List.getD_eq_getElem?_getD, List.getElem?_take_of_lt (by omega)]

theorem n_ok {l : List Int} {i m sz most : Int} (h0 : 0 ≤ i) (h1 : i ≤ (l.length : Int)) (hl : (l.length : Int) ≤ 1048576) (hm : 2 ≤ most ∧ most ≤ 1099511627776) :
    ∃ r i' m', spec_l01Src_n.f l i m sz most = some (r, i', m', sz) ∧ 0 ≤ r ∧ r < most ∧ 0 ≤ i' ∧ i' ≤ (l.length : Int) := by
  have hw : IntKind.u64.wrap most = most := u64_id (by omega) (by omega)
  have ho : ∀ v mm : Int, 0 ≤ spec_l01Src_n.out v mm most ∧ spec_l01Src_n.out v mm most < most := by
    intro v mm
    unfold spec_l01Src_n.out
    rw [hw, wrap_u64]
    generalize (v + mm / 1048576) = x
    have hx : 0 ≤ x % 18446744073709551616 := by omega
    rw [Int.tmod_eq_emod_of_nonneg hx]
    have a1 := Int.emod_nonneg (x % 18446744073709551616) (show most ≠ 0 by omega)
    have a2 := Int.emod_lt_of_pos (x % 18446744073709551616) (show 0 < most by omega)
    rw [wrap64_id (by omega) (by omega)]
    exact ⟨a1, a2⟩
  unfold spec_l01Src_n.f
  rw [if_neg (by omega), hw, if_neg (by omega)]
  by_cases h : i < (l.length : Int)
  · rw [if_pos h, if_pos h0, wrap64_id (by omega) (by omega)]
    have := ho (IntKind.u64.wrap (rd l i)) (spec_l01Src_n.mix m)
    exact ⟨_, _, _, rfl, this.1, this.2, by omega, by omega⟩
  · rw [if_neg h]
    have := ho 0 (spec_l01Src_n.mix m)
    exact ⟨_, _, _, rfl, this.1, this.2, by omega, by omega⟩
theorem src_l0 (l : List Int) : ∀ (d k : Nat) (x m : Int), 0 ≤ x → x + d = 64 → d < k → ∃ m' z, spec_l01Source.l0 k l x l 0 m 0 = some (l, 0, m', z) := by
  intro d
  induction d with
  | zero =>
    intro k x m h0 h1 hk
    obtain ⟨k, rfl⟩ : ∃ q, k = q + 1 := ⟨k - 1, by omega⟩
    simp only [spec_l01Source.l0]
    rw [if_neg (show ¬ x < 64 by omega)]
    split <;> split <;> exact ⟨_, _, rfl⟩
  | succ d ih =>
    intro k x m h0 h1 hk
    obtain ⟨k, rfl⟩ : ∃ q, k = q + 1 := ⟨k - 1, by omega⟩
    simp only [spec_l01Source.l0]
    rw [if_pos (show x < 64 by omega), if_pos h0, wrap64_id (x := x + 1) (by omega) (by omega)]
    by_cases h : x < (l.length : Int)
    · rw [if_pos h]; exact ih k _ _ (by omega) (by omega) (by omega)
    · rw [if_neg h]; split <;> exact ⟨_, _, rfl⟩
theorem source_ok (l : List Int) (k : Nat) (hk : 65 ≤ k) : ∃ m z, spec_l01Source.f k l = some (l, 0, m, z) := by
  unfold spec_l01Source.f
  exact src_l0 l 64 k 0 _ (by omega) (by omega) (by omega)

theorem one_ok {l : List Int} {i m sz most : Int} (h0 : 0 ≤ i) (h1 : i ≤ (l.length : Int)) (hl : (l.length : Int) ≤ 1048576) (hm : 2 ≤ most ∧ most ≤ 1099511627776) :
    ∃ b i' m', spec_l01Src_one.f l i m sz most = some (b, i', m', sz) ∧ 0 ≤ i' ∧ i' ≤ (l.length : Int) := by
  obtain ⟨r, i', m', e, _, _, a, b⟩ := n_ok (m := m) (sz := sz) h0 h1 hl hm
  unfold spec_l01Src_one.f
  rw [e]
  exact ⟨_, _, _, rfl, a, b⟩
theorem edge_ok {l : List Int} {i m sz : Int} (h0 : 0 ≤ i) (h1 : i ≤ (l.length : Int)) (hl : (l.length : Int) ≤ 1048576) :
    ∃ n i' m', spec_l01Src_edge.f l i m sz = some (n, i', m', sz) ∧ (-9223372036854775808 ≤ n ∧ n ≤ 9223372036854775807) ∧ 0 ≤ i' ∧ i' ≤ (l.length : Int) := by
  obtain ⟨r, i', m', e, r0, r1, a, b⟩ := n_ok (m := m) (sz := sz) (most := 14) h0 h1 hl (by omega)
  unfold spec_l01Src_edge.f
  rw [Option.bind_some, e, Option.bind_some, if_pos r0, if_pos (by simpa using r1)]
  refine ⟨_, _, _, rfl, ?_, a, b⟩
  have hall : ∀ x ∈ ([0, 1, (-1), 2, 1000, 1001, 2147483648, 2147483647, (-2147483648), 4611686018427387904, 9223372036854775807, (-9223372036854775808), 1000000, 1000001] : List Int), -9223372036854775808 ≤ x ∧ x ≤ 9223372036854775807 := by decide
  unfold rd
  rw [List.getD_eq_getElem?_getD, List.getElem?_eq_getElem (show r.toNat < _ by simp; omega), Option.getD_some]
  exact hall _ (List.getElem_mem _)
theorem any_ok {l : List Int} {i m sz : Int} (h0 : 0 ≤ i) (h1 : i ≤ (l.length : Int)) (hl : (l.length : Int) ≤ 1048576) :
    ∃ n i' m', spec_l01Src_l01Any.f l i m sz = some (n, i', m', sz) ∧ (-9223372036854775808 ≤ n ∧ n ≤ 9223372036854775807) ∧ 0 ≤ i' ∧ i' ≤ (l.length : Int) := by
  obtain ⟨b, i1, m1, e1, a1, a2⟩ := one_ok (m := m) (sz := sz) (most := 4) h0 h1 hl (by omega)
  unfold spec_l01Src_l01Any.f
  rw [e1, Option.bind_some]
  cases b with
  | true =>
    obtain ⟨n, i2, m2, e2, hn, b1, b2⟩ := edge_ok (m := m1) (sz := sz) a1 a2 hl
    rw [if_pos rfl]
    simp only [e2, Option.bind_some]
    exact ⟨_, _, _, rfl, hn, b1, b2⟩
  | false =>
    obtain ⟨r, i2, m2, e2, r0, r1, b1, b2⟩ := n_ok (m := m1) (sz := sz) (most := 1099511627776) a1 a2 hl (by omega)
    rw [if_neg (by simp)]
    simp only [e2, Option.bind_some]
    refine ⟨_, _, _, rfl, ?_, b1, b2⟩
    rw [wrap64_id (by omega) (by omega)]
    omega

theorem drawbytes_l0 (l : List Int) (sz n : Int) (hn : n ≤ 1000) (hl : (l.length : Int) ≤ 1048576) : ∀ (d k : Nat) (x : Int) (out : List Int) (i m : Int), 0 ≤ x → x + d = n → 0 ≤ i → i ≤ (l.length : Int) → d < k → out.length + d ≤ 100000 →
    ∃ t i' m', spec_l01Src_bytes.l0 k n out x l i m sz = some (t, i', m', sz) ∧ 0 ≤ i' ∧ i' ≤ (l.length : Int) := by
  intro d
  induction d with
  | zero =>
    intro k x out i m h0 h1 hi hi2 hk hq
    obtain ⟨k, rfl⟩ : ∃ q, k = q + 1 := ⟨k - 1, by omega⟩
    simp only [spec_l01Src_bytes.l0]
    rw [if_neg (by omega)]
    exact ⟨_, _, _, rfl, hi, hi2⟩
  | succ d ih =>
    intro k x out i m h0 h1 hi hi2 hk hq
    obtain ⟨k, rfl⟩ : ∃ q, k = q + 1 := ⟨k - 1, by omega⟩
    simp only [spec_l01Src_bytes.l0]
    obtain ⟨r, i', m', e, _, _, a, b⟩ := n_ok (m := m) (sz := sz) (most := 256) hi hi2 hl (by omega)
    rw [if_pos (by omega), e, Option.bind_some, if_pos (by omega), wrap64_id (by omega) (by omega)]
    exact ih k _ _ _ _ (by omega) (by omega) a b (by omega) (by simp; omega)
theorem drawbytes_ok {l : List Int} {i m sz n : Int} (h0 : 0 ≤ i) (h1 : i ≤ (l.length : Int)) (hl : (l.length : Int) ≤ 1048576) (hn : 0 ≤ n ∧ n ≤ 1000) (k : Nat) (hk : n < k) :
    ∃ t i' m', spec_l01Src_bytes.f k l i m sz n = some (t, i', m', sz) ∧ 0 ≤ i' ∧ i' ≤ (l.length : Int) := by
  unfold spec_l01Src_bytes.f
  exact drawbytes_l0 l sz n hn.2 hl n.toNat k 0 [] i m (by omega) (by omega) h0 h1 (by omega) (by simp; omega)

theorem and127 : ∀ b : Nat, b < 256 → b &&& 127 = b % 128 := by decide +kernel
theorem i_and {c : Nat} (h : c < 256) : IntKind.u64.wrap (Go.bits .and .u8 (c : Int) 127) = ((c % 128 : Nat) : Int) := by
  have e2 : (127 : Int) = ((127 : Nat) : Int) := rfl
  rw [e2, bits_and_nat, IntKind.wrap_u8, wrap_u64]
  have hb : (2 : Nat) ^ IntKind.u8.bits = 256 := by decide
  rw [hb, Nat.mod_eq_of_lt h, show 127 % 256 = 127 from rfl, and127 c h]
  omega
theorem or_group {u x i : Nat} (hu : u < 2 ^ (7 * i)) (h1 : x * 2 ^ (7 * i) < 18446744073709551616) (h2 : u + x * 2 ^ (7 * i) < 18446744073709551616) : Go.bits .or .u64 (u : Int) ((x * 2 ^ (7 * i) : Nat) : Int) = ((u + x * 2 ^ (7 * i) : Nat) : Int) := by
  rw [bits_or_nat, wrap_u64]
  have hb : (2 : Nat) ^ IntKind.u64.bits = 18446744073709551616 := by decide
  rw [hb, Nat.mod_eq_of_lt (by omega : u < 18446744073709551616), Nat.mod_eq_of_lt h1]
  have e : u ||| x * 2 ^ (7 * i) = u + x * 2 ^ (7 * i) := by
    rw [Nat.or_comm, Nat.mul_comm x, ← Nat.two_pow_add_eq_or_of_lt hu, Nat.add_comm]
  rw [e]
  omega
theorem and_one {z : Nat} (h : z < 18446744073709551616) : Go.bits .and .u64 (z : Int) 1 = ((z % 2 : Nat) : Int) := by
  have e2 : (1 : Int) = ((1 : Nat) : Int) := rfl
  rw [e2, bits_and_nat, wrap_u64]
  have hb : (2 : Nat) ^ IntKind.u64.bits = 18446744073709551616 := by decide
  rw [hb, Nat.mod_eq_of_lt h, show 1 % 18446744073709551616 = 2 ^ 1 - 1 from by decide, Nat.and_two_pow_sub_one_eq_mod]
  omega
theorem xor_zero_i64 {n : Nat} (h : n < 9223372036854775808) : Go.bits .xor .i64 (n : Int) 0 = (n : Int) := by
  have e2 : (0 : Int) = ((0 : Nat) : Int) := rfl
  rw [e2, bits_xor_nat, IntKind.wrap_i64]
  have hb : (2 : Nat) ^ IntKind.i64.bits = 18446744073709551616 := by decide
  rw [hb, Nat.mod_eq_of_lt (by omega : n < 18446744073709551616), Nat.zero_mod, Nat.xor_zero]
  omega
theorem xor_ones_i64 {n : Nat} (h : n < 9223372036854775808) : Go.bits .xor .i64 (n : Int) (-1) = -(n : Int) - 1 := by
  have hb : IntKind.i64.bits = 64 := rfl
  have e3 : (BitVec.ofInt 64 (-1)) = BitVec.ofNat 64 18446744073709551615 := by decide
  have e4 : Go.bits .xor .i64 (n : Int) (-1) = IntKind.i64.wrap (((BitVec.ofInt 64 (n : Int)) ^^^ (BitVec.ofInt 64 (-1))).toNat : Int) := rfl
  rw [e4, e3, BitVec.ofInt_natCast, BitVec.toNat_xor, BitVec.toNat_ofNat, BitVec.toNat_ofNat]
  have h64 : (2 : Nat) ^ 64 = 18446744073709551616 := by decide
  rw [h64, Nat.mod_eq_of_lt (by omega : n < 18446744073709551616), show 18446744073709551615 % 18446744073709551616 = 18446744073709551615 from by decide, xor_ones _ (by omega), IntKind.wrap_i64]
  omega
theorem i_fin {z : Nat} (g2 : z < 18446744073709551616) : Go.bits .xor .i64 (wrap64 ((z : Int) / 2)) (wrap64 (-(wrap64 (Go.bits .and .u64 (z : Int) 1)))) = unzz z := by
  rw [and_one g2]
  have t1 : wrap64 ((z : Int) / 2) = ((z / 2 : Nat) : Int) := wrap64_id (by omega) (by omega)
  have t2 : wrap64 ((z % 2 : Nat) : Int) = ((z % 2 : Nat) : Int) := wrap64_id (by omega) (by omega)
  rw [t1, t2]
  unfold unzz
  by_cases hp : z % 2 = 1
  · rw [if_pos hp, hp]
    have t3 : wrap64 (-((1 : Nat) : Int)) = -1 := by unfold wrap64; omega
    rw [t3, xor_ones_i64 (by omega)]
  · rw [if_neg hp, show z % 2 = 0 from by omega]
    have t3 : wrap64 (-((0 : Nat) : Int)) = 0 := by unfold wrap64; omega
    rw [t3, xor_zero_i64 (by omega)]
set_option maxHeartbeats 1000000 in
theorem i_gdec (s : ByteArray) (a : Int) (hs : (s.size : Int) ≤ 8000) (h0 : 0 ≤ a) (ha : a ≤ 8000) : ∀ (f i u k : Nat), i + f = 10 → 0 < f → u < 2 ^ (7 * i) → 2 * f + 2 ≤ k →
    impl_getNum.l0 k s a (u : Int) (i : Int) = some (gdec f s a i u) := by
  intro f
  induction f with
  | zero => intro i u k _ hf; omega
  | succ f ih =>
    intro i u k hi _ hu hk
    obtain ⟨k, rfl⟩ : ∃ m, k = m + 2 := ⟨k - 2, by omega⟩
    have w2 : wrap64 (a + (i : Int)) = a + i := wrap64_id (by omega) (by omega)
    simp only [impl_getNum.l0, gdec, w2]
    by_cases hsh : a + (i : Int) ≥ (s.size : Int)
    · rw [if_pos hsh, if_pos hsh]
    · rw [if_neg hsh, if_neg hsh]
      obtain ⟨b0, b1⟩ := bt_range s (a + i)
      obtain ⟨c, hc⟩ := Int.eq_ofNat_of_zero_le b0
      have w4 : wrap64 (7 * (i : Int)) = 7 * (i : Int) := wrap64_id (by omega) (by omega)
      rw [if_pos (by omega), if_pos (by omega), hc, Int.toNat_natCast]
      rw [hc] at b1
      have w5 := i_and (show c < 256 by omega)
      by_cases h9 : i = 9 ∧ (c : Int) > 1
      · obtain ⟨h9, h91⟩ := h9
        rw [if_pos (by omega), if_pos ⟨h9, h91⟩]
        simp only [impl_getNum.j1]
        rw [if_pos (by simpa using h91)]
      · rw [if_neg h9]
        have hfl : (if (i : Int) = 9 then impl_getNum.j1 (k + 1) s a (u : Int) (i : Int) (c : Int) (decide ((c : Int) > 1)) else impl_getNum.j1 (k + 1) s a (u : Int) (i : Int) (c : Int) false) = impl_getNum.j1 (k + 1) s a (u : Int) (i : Int) (c : Int) false := by
          split
          · have : decide ((c : Int) > 1) = false := decide_eq_false (by omega)
            rw [this]
          · rfl
        rw [hfl]
        obtain ⟨g1, g2, g3⟩ := group_lt (c := c) (show i ≤ 9 by omega) hu (by omega)
        have w6 : shl .u64 ((c % 128 : Nat) : Int) (7 * (i : Int)) = ((c % 128 * 2 ^ (7 * i) : Nat) : Int) := shl_u64 (by omega) g1 rfl
        have w7 := or_group hu g1 g2
        generalize c % 128 * 2 ^ (7 * i) = v at *
        have w8 : wrap64 ((i : Int) + 1) = ((i + 1 : Nat) : Int) := wrap64_id (by omega) (by omega)
        simp only [impl_getNum.j1, w2, w4, w5, w6, w7, w8]
        clear w4 w5 w6 w7 w8 hu g1
        generalize u + v = z at *
        rw [if_neg (by simp), if_pos (by omega)]
        by_cases h128 : (c : Int) ≥ 128
        · rw [if_pos h128, if_pos h128]
          rcases Nat.lt_or_ge i 9 with h | h
          · exact ih (i + 1) _ _ (by omega) (by omega) (g3 h) (by omega)
          · exfalso; omega
        · rw [if_neg h128, if_neg h128]
          have hv := i_fin g2
          have t6 : wrap64 (a + (i : Int) + 1) = a + i + 1 := wrap64_id (by omega) (by omega)
          rw [hv, t6]
          by_cases hz : (c : Int) = 0 ∧ i > 0
          · rw [if_pos hz.1, if_pos (by omega), if_pos hz]
          · rw [if_neg hz]
            by_cases hz0 : (c : Int) = 0
            · rw [if_pos hz0, if_neg (by omega)]
            · rw [if_neg hz0]
theorem i_getNum (s : ByteArray) (a : Int) (k : Nat) (hk : 22 ≤ k) : impl_GetNum.f k s a = some (gnum s a) := by
  unfold impl_GetNum.f impl_isLong.f gnum
  simp only [Option.bind_some, decide_eq_true_eq]
  by_cases h : (s.size : Int) > 8000
  · rw [if_pos h, if_pos h]
  · rw [if_neg h, if_neg h]
    by_cases h0 : a < 0
    · rw [if_pos h0, if_pos h0]
    · rw [if_neg h0, if_neg h0]
      by_cases h1 : a ≥ (s.size : Int)
      · rw [if_pos h1]
        simp only [gdec]
        rw [if_pos (by omega)]
      · rw [if_neg h1]
        unfold impl_getNum.f
        rw [show (0 : Int) = ((0 : Nat) : Int) from rfl, i_gdec s a (by omega) (by omega) (by omega) 10 0 0 k (by omega) (by omega) (by simp) (by omega)]
        rfl

theorem i_in (a b c : Int) : impl_in.f a b c = some (decide (b ≤ a ∧ a ≤ c)) := by
  unfold impl_in.f; by_cases h : b ≤ a
  · rw [if_pos h]; by_cases h2 : a ≤ c <;> simp [h, h2]
  · rw [if_neg h]; congr 1; symm; apply decide_eq_false; omega

/-- What a decoded number is, and where it ends. -/
theorem gdec_ok : ∀ (f : Nat) (s : ByteArray) (a : Int) (i u : Nat), 0 ≤ a → (gdec f s a i u).2.2 = 0 → 0 ≤ (gdec f s a i u).2.1 ∧ (gdec f s a i u).2.1 ≤ (s.size : Int)
  | 0, s, a, i, u, _, h => by simp [gdec] at h
  | f + 1, s, a, i, u, h0, h => by
    rw [gdec] at h ⊢
    by_cases h1 : a + i ≥ (s.size : Int)
    · rw [if_pos h1] at h; simp at h
    · rw [if_neg h1] at h ⊢
      by_cases h2 : i = 9 ∧ bt s (a + i) > 1
      · rw [if_pos h2] at h; simp at h
      · rw [if_neg h2] at h ⊢
        by_cases h3 : bt s (a + i) ≥ 128
        · rw [if_pos h3] at h ⊢; exact gdec_ok f s a _ _ h0 h
        · rw [if_neg h3] at h ⊢
          by_cases h4 : bt s (a + i) = 0 ∧ i > 0
          · rw [if_pos h4] at h; simp at h
          · rw [if_neg h4]; exact ⟨by simp only; omega, by simp only; omega⟩
theorem gnum_ok {s : ByteArray} {a : Int} (h : (gnum s a).2.2 = 0) : (s.size : Int) ≤ 8000 ∧ 0 ≤ (gnum s a).2.1 ∧ (gnum s a).2.1 ≤ (s.size : Int) := by
  unfold gnum at h ⊢
  by_cases h1 : (s.size : Int) > 8000
  · rw [if_pos h1] at h; simp at h
  · rw [if_neg h1] at h ⊢
    by_cases h2 : a < 0
    · rw [if_pos h2] at h; simp at h
    · rw [if_neg h2] at h ⊢
      have := gdec_ok 10 s a 0 0 (by omega) h
      exact ⟨by omega, this⟩
def gtxt (s : ByteArray) (a : Int) : ByteArray × Int × Int :=
  if (gnum s a).2.2 = 0 then (if 0 ≤ (gnum s a).1 ∧ (gnum s a).1 ≤ 8000 then (if (gnum s a).2.1 + (gnum s a).1 > (s.size : Int) then (⟨#[]⟩, 0, 4)
    else (s.extract (gnum s a).2.1.toNat ((gnum s a).2.1 + (gnum s a).1).toNat, (gnum s a).2.1 + (gnum s a).1, 0)) else (⟨#[]⟩, 0, 3)) else (⟨#[]⟩, 0, (gnum s a).2.2)

theorem i_getText (s : ByteArray) (a : Int) (k : Nat) (hk : 22 ≤ k) : impl_GetText.f k s a = some (gtxt s a) := by
  unfold impl_GetText.f gtxt
  rw [i_getNum s a _ hk, Option.bind_some]
  by_cases h : (gnum s a).2.2 = 0
  · obtain ⟨hs, h0, h1⟩ := gnum_ok h
    rw [if_pos h, if_pos h, i_in, Option.bind_some]
    generalize (gnum s a).1 = n at *
    generalize (gnum s a).2.1 = e at *
    by_cases hn : 0 ≤ n ∧ n ≤ 8000
    · rw [if_pos (by simpa using hn), if_pos hn]
      have w2 : wrap64 (e + n) = e + n := wrap64_id (by omega) (by omega)
      rw [w2]
      by_cases hz : e + n > (s.size : Int)
      · rw [if_pos hz, if_pos hz]
      · rw [if_neg hz, if_neg hz, if_pos h0, if_pos (by omega), if_pos (by omega)]
    · rw [if_neg (by simpa using hn), if_neg hn]
  · rw [if_neg h, if_neg h]

theorem s_fold {n : Int} (h : -9223372036854775808 ≤ n ∧ n ≤ 9223372036854775807) : spec_l01Fold.f n = some (zz n : Int) := by
  unfold spec_l01Fold.f
  rw [zz_cast]
  by_cases hn : n < 0
  · rw [if_pos hn, if_pos hn]
    have e1 : wrap64 (n + 1) = n + 1 := by unfold wrap64; omega
    have e2 : wrap64 (-(n + 1)) = -(n + 1) := by unfold wrap64; omega
    rw [e1, e2, wrap_u64, wrap_u64, wrap_u64]
    congr 1
    omega
  · rw [if_neg hn, if_neg hn, wrap_u64, wrap_u64]
    congr 1
    omega
theorem s_put_l0 : ∀ (f k u : Nat) (out : List Int), u < 128 ^ (f + 1) → u < 18446744073709551616 → f < k → out.length + f ≤ 100 →
    spec_PutNum.l0 k (u : Int) out = some (strOfNums (out ++ vi (f + 1) u)) := by
  intro f
  induction f with
  | zero =>
    intro k u out h1 _ hk hl
    obtain ⟨k, rfl⟩ : ∃ m, k = m + 1 := ⟨k - 1, by omega⟩
    have hu : u < 128 := by simpa using h1
    simp only [spec_PutNum.l0]
    rw [if_neg (by omega), if_pos (by omega)]
    have e : (u : Int) % 256 = (u : Int) := by omega
    rw [e]
    simp only [vi, if_pos hu]
  | succ f ih =>
    intro k u out h1 h2 hk hl
    obtain ⟨k, rfl⟩ : ∃ m, k = m + 1 := ⟨k - 1, by omega⟩
    by_cases hu : u < 128
    · simp only [spec_PutNum.l0]
      rw [if_neg (by omega), if_pos (by omega)]
      have e : (u : Int) % 256 = (u : Int) := by omega
      rw [e, vi, if_pos hu]
    · simp only [spec_PutNum.l0]
      rw [if_pos (by omega), if_pos (by omega)]
      have e1 : IntKind.u64.wrap (Int.tdiv (u : Int) 128) = ((u / 128 : Nat) : Int) := by
        rw [wrap_u64, Int.tdiv_eq_ediv_of_nonneg (by omega)]; omega
      have e2 : IntKind.u64.wrap (Int.tmod (u : Int) 128 + 128) % 256 = ((u % 128 + 128 : Nat) : Int) := by
        rw [wrap_u64, Int.tmod_eq_emod_of_nonneg (by omega)]; omega
      rw [e1, e2, ih k (u / 128) _ (by rw [Nat.pow_succ] at h1; omega) (by omega) (by omega) (by simp; omega)]
      rw [show vi (f + 1 + 1) u = ((u % 128 + 128 : Nat) : Int) :: vi (f + 1) (u / 128) from by rw [vi, if_neg hu]]
      simp
theorem s_putNum {n : Int} (h : -9223372036854775808 ≤ n ∧ n ≤ 9223372036854775807) (k : Nat) (hk : 10 ≤ k) : spec_PutNum.f k n = some (encN n) := by
  unfold spec_PutNum.f
  rw [s_fold h, Option.bind_some]
  have hz := zz_lt h
  rw [s_put_l0 9 k (zz n) [] (by rw [show 9 + 1 = 10 from rfl, pow128]; omega) hz (by omega) (by simp)]
  rfl

theorem i_fold {n : Int} (h : -9223372036854775808 ≤ n ∧ n ≤ 9223372036854775807) :
    Go.bits .xor .u64 (IntKind.u64.wrap ((IntKind.u64.wrap n) * 2)) (IntKind.u64.wrap (n / 9223372036854775808)) = (zz n : Int) := by
  rw [zz_cast, wrap_u64, wrap_u64, wrap_u64]
  by_cases hn : n < 0
  · rw [if_pos hn]
    have e1 : n % 18446744073709551616 * 2 % 18446744073709551616 = ((2 * n + 18446744073709551616).toNat : Int) := by omega
    have e2 : n / 9223372036854775808 % 18446744073709551616 = ((18446744073709551615 : Nat) : Int) := by omega
    rw [e1, e2, bits_xor_nat, wrap_u64]
    have hb : (2 : Nat) ^ IntKind.u64.bits = 18446744073709551616 := by decide
    rw [hb, Nat.mod_eq_of_lt (by omega : (2 * n + 18446744073709551616).toNat < 18446744073709551616), show 18446744073709551615 % 18446744073709551616 = 18446744073709551615 from by decide, xor_ones _ (by omega)]
    omega
  · rw [if_neg hn]
    have e1 : n % 18446744073709551616 * 2 % 18446744073709551616 = ((2 * n).toNat : Int) := by omega
    have e2 : n / 9223372036854775808 % 18446744073709551616 = ((0 : Nat) : Int) := by omega
    rw [e1, e2, bits_xor_nat, wrap_u64]
    have hb : (2 : Nat) ^ IntKind.u64.bits = 18446744073709551616 := by decide
    rw [hb, Nat.mod_eq_of_lt (by omega : (2 * n).toNat < 18446744073709551616), Nat.zero_mod, Nat.xor_zero]
    omega
set_option maxRecDepth 10000 in
theorem or128 : ∀ b : Nat, b < 256 → b ||| 128 = b % 128 + 128 := by decide +kernel
theorem i_or (u : Nat) : Go.bits .or .u8 ((u : Int) % 256) 128 = ((u % 128 + 128 : Nat) : Int) := by
  have e : (u : Int) % 256 = ((u % 256 : Nat) : Int) := by omega
  have e2 : (128 : Int) = ((128 : Nat) : Int) := rfl
  rw [e, e2, bits_or_nat, IntKind.wrap_u8]
  have hb : (2 : Nat) ^ IntKind.u8.bits = 256 := by decide
  rw [hb, Nat.mod_mod, show 128 % 256 = 128 from rfl, or128 (u % 256) (by omega)]
  omega
theorem i_put_l0 : ∀ (f k u : Nat) (out : List Int), u < 128 ^ (f + 1) → u < 18446744073709551616 → f < k → out.length + f ≤ 100 →
    impl_PutNum.l0 k (u : Int) out = some (strOfNums (out ++ vi (f + 1) u)) := by
  intro f
  induction f with
  | zero =>
    intro k u out h1 _ hk hl
    obtain ⟨k, rfl⟩ : ∃ m, k = m + 1 := ⟨k - 1, by omega⟩
    have hu : u < 128 := by simpa using h1
    simp only [impl_PutNum.l0]
    rw [if_neg (by omega), if_pos (by omega)]
    have e : (u : Int) % 256 = (u : Int) := by omega
    rw [e]
    simp only [vi, if_pos hu]
  | succ f ih =>
    intro k u out h1 h2 hk hl
    obtain ⟨k, rfl⟩ : ∃ m, k = m + 1 := ⟨k - 1, by omega⟩
    by_cases hu : u < 128
    · simp only [impl_PutNum.l0]
      rw [if_neg (by omega), if_pos (by omega)]
      have e : (u : Int) % 256 = (u : Int) := by omega
      rw [e, vi, if_pos hu]
    · simp only [impl_PutNum.l0]
      rw [if_pos (by omega), if_pos (by omega)]
      have e1 : (u : Int) / 128 = ((u / 128 : Nat) : Int) := by omega
      rw [e1, i_or, ih k (u / 128) _ (by rw [Nat.pow_succ] at h1; omega) (by omega) (by omega) (by simp; omega)]
      rw [show vi (f + 1 + 1) u = ((u % 128 + 128 : Nat) : Int) :: vi (f + 1) (u / 128) from by rw [vi, if_neg hu]]
      simp
theorem i_putNum {n : Int} (h : -9223372036854775808 ≤ n ∧ n ≤ 9223372036854775807) (k : Nat) (hk : 10 ≤ k) : impl_PutNum.f k n = some (encN n) := by
  unfold impl_PutNum.f
  rw [i_fold h]
  have hz := zz_lt h
  rw [i_put_l0 9 k (zz n) [] (by rw [show 9 + 1 = 10 from rfl, pow128]; omega) hz (by omega) (by simp)]
  rfl

def encT (t : ByteArray) : ByteArray := if (t.size : Int) > 8000 then ⟨#[]⟩ else encN (t.size : Int) ++ t
theorem s_putText (t : ByteArray) (k : Nat) (hk : 10 ≤ k) : spec_PutText.f k t = some (encT t) := by
  unfold spec_PutText.f encT
  by_cases h2 : (t.size : Int) > 8000
  · rw [if_pos h2, if_pos h2]
  · have hs := encN_size (t.size : Int)
    rw [if_neg h2, if_neg h2, s_putNum (by omega) k hk, Option.bind_some, if_pos (by omega)]

theorem i_putText (t : ByteArray) (k : Nat) (hk : 10 ≤ k) : impl_PutText.f k t = some (encT t) := by
  unfold impl_PutText.f impl_isLong.f encT
  simp only [Option.bind_some, decide_eq_true_eq]
  by_cases h2 : (t.size : Int) > 8000
  · rw [if_pos h2, if_pos h2]
  · have hs := encN_size (t.size : Int)
    rw [if_neg h2, if_neg h2, i_putNum (by omega) k hk, Option.bind_some, if_pos (by omega)]

theorem gtxt_mid {p t : ByteArray} (ht : (t.size : Int) ≤ 8000) (hs : ((p ++ encT t).size : Int) ≤ 8000) :
    gtxt (p ++ encT t) (p.size : Int) = (t, ((p ++ encT t).size : Int), 0) := by
  have e1 : encT t = encN (t.size : Int) ++ t := by unfold encT; rw [if_neg (by omega)]
  rw [e1, ← ByteArray.append_assoc] at hs ⊢
  have hg := gnum_mid (p := p) (q := t) (n := (t.size : Int)) hs (by omega)
  unfold gtxt
  rw [hg]
  have e : ((p ++ encN (t.size : Int)) ++ t).size = p.size + (encN (t.size : Int)).size + t.size := by simp
  simp only [if_true]
  rw [if_pos (by omega), if_neg (by omega)]
  have e2 : ((p.size : Int) + ((encN (t.size : Int)).size : Int)).toNat = (p ++ encN (t.size : Int)).size := by rw [ByteArray.size_append]; omega
  have e3 : ((p.size : Int) + ((encN (t.size : Int)).size : Int) + (t.size : Int)).toNat = (p ++ encN (t.size : Int)).size + t.size := by rw [ByteArray.size_append]; omega
  rw [e2, e3, ByteArray.extract_append_eq_right rfl rfl, e]
  simp
theorem bytes_take_enc (t : ByteArray) (n : Int) (m : Nat) (j : Nat) (hj : j < (vi 10 (zz n)).length) (hm : j < m) : bt ((encN n ++ t).extract 0 m) (j : Int) = (vi 10 (zz n)).getD j 0 := by
  rw [bt_of, bytes_ext, bytes_app, bytes_encN, Int.toNat_natCast, List.getD_eq_getElem?_getD, List.getD_eq_getElem?_getD, List.getElem?_take_of_lt hm, List.getElem?_append_left hj]
theorem gtxt_cut {t : ByteArray} (ht : (t.size : Int) ≤ 8000) (hs : ((encT t).size : Int) ≤ 8001) (m : Nat) (hm : m = (encT t).size - 1) :
    (gtxt ((encT t).extract 0 m) 0).2.2 = 4 := by
  subst hm
  have e1 : encT t = encN (t.size : Int) ++ t := by unfold encT; rw [if_neg (by omega)]
  rw [e1] at hs ⊢
  have hl := encN_len (t.size : Int)
  have hp := vi_pos 9 (zz (t.size : Int))
  have hsz : (encN (t.size : Int) ++ t).size = (encN (t.size : Int)).size + t.size := by simp
  have hez : ((encN (t.size : Int) ++ t).extract 0 ((encN (t.size : Int) ++ t).size - 1)).size = (encN (t.size : Int) ++ t).size - 1 := by
    rw [ByteArray.size_extract]; omega
  by_cases h0 : t.size = 0
  · have hg : gnum ((encN (t.size : Int) ++ t).extract 0 ((encN (t.size : Int) ++ t).size - 1)) 0 = (0, 0, 4) := by
      refine gnum_short (n := (t.size : Int)) (by omega) (by omega) ?_
      intro j hj
      exact bytes_take_enc t _ _ j (by omega) (by omega)
    unfold gtxt
    rw [hg]
    rfl
  · have hg : gnum ((encN (t.size : Int) ++ t).extract 0 ((encN (t.size : Int) ++ t).size - 1)) 0 = ((t.size : Int), 0 + ((encN (t.size : Int)).size : Int), 0) := by
      refine gnum_at (by omega) (by omega) (by omega) ?_
      intro j hj
      rw [Int.zero_add]
      exact ⟨by omega, bytes_take_enc t _ _ j hj (by omega)⟩
    unfold gtxt
    rw [hg]
    simp only [if_true]
    rw [if_pos (by omega), if_pos (by omega)]

--@use roundtrip
--@use draw_any
--@use draw_bytes
--@use gettext_i
--@use puttext_i
--@use roundtext
theorem drawnum_ok {l : List Int} (hl : (l.length : Int) ≤ 1048576) (k : Nat) (hk : 65 ≤ k) : ∃ n, spec_DrawPutNum.f k l = some n ∧ (-9223372036854775808 ≤ n ∧ n ≤ 9223372036854775807) := by
  obtain ⟨m, z, e⟩ := source_ok l k hk
  obtain ⟨n, i', m', e2, hn, _, _⟩ := any_ok (l := l) (i := 0) (m := m) (sz := z) (by omega) (by omega) hl
  unfold spec_DrawPutNum.f
  rw [e, Option.bind_some]
  simp only [e2, Option.bind_some]
  exact ⟨_, rfl, hn⟩
theorem drawtext_ok {l : List Int} (hl : (l.length : Int) ≤ 1048576) (k : Nat) (hk : 65 ≤ k) : ∃ t, spec_DrawPutText.f k l = some t := by
  obtain ⟨m, z, e⟩ := source_ok l k hk
  obtain ⟨b, i1, m1, e1, a1, a2⟩ := one_ok (l := l) (i := 0) (m := m) (sz := z) (most := 8) (by omega) (by omega) hl (by omega)
  unfold spec_DrawPutText.f
  rw [e, Option.bind_some]
  simp only [e1, Option.bind_some]
  cases b with
  | true =>
    obtain ⟨r, i2, m2, e2, r0, r1, b1, b2⟩ := n_ok (m := m1) (sz := z) (most := 3) a1 a2 hl (by omega)
    rw [if_pos rfl]
    simp only [e2, Option.bind_some]
    rw [wrap64_id (by omega) (by omega), if_pos (by omega), if_pos (by omega)]
    exact ⟨_, rfl⟩
  | false =>
    obtain ⟨r, i2, m2, e2, r0, r1, b1, b2⟩ := n_ok (m := m1) (sz := z) (most := 20) a1 a2 hl (by omega)
    rw [if_neg (by simp)]
    simp only [e2, Option.bind_some]
    obtain ⟨t, i3, m3, e3, _, _⟩ := drawbytes_ok (m := m2) (sz := z) (n := r) b1 b2 hl (by omega) k (by omega)
    simp only [e3, Option.bind_some]
    exact ⟨_, rfl⟩
theorem nums_j3t (k : Nat) (hk : 10 ≤ k) (u : ByteArray) : laws_FnNums.j3 (k + 1) u (encT u) true = some true := by
  simp only [laws_FnNums.j3]
  rw [if_pos trivial, s_putText u k hk, Option.bind_some]
  simp
theorem nums_j3f (k : Nat) (hk : 30 ≤ k) (u : ByteArray) (hu : (u.size : Int) ≤ 8000) : laws_FnNums.j3 (k + 1) u (encT u) false = some true := by
  simp only [laws_FnNums.j3]
  have e1 : encT u = encN (u.size : Int) ++ u := by unfold encT; rw [if_neg (by omega)]
  have hl := encN_size (u.size : Int)
  have hp : 0 < (encT u).size := by
    have hv : 0 < (vi 10 (zz (u.size : Int))).length := vi_pos 9 _
    rw [e1, ByteArray.size_append, encN_len]; omega
  have hs : (encT u).size ≤ 8010 := by rw [e1, ByteArray.size_append]; omega
  have w1 : wrap64 (((encT u).size : Int) + 1) = ((encT u).size : Int) + 1 := wrap64_id (by omega) (by omega)
  have w2 : wrap64 (((encT u).size : Int) - 1) = (((encT u).size - 1 : Nat) : Int) := by rw [wrap64_id (by omega) (by omega)]; omega
  rw [if_neg (by simp), w1, w2]
  by_cases h8 : ((encT u).size : Int) + 1 > 8000
  · rw [if_pos h8]
  · have hx : (⟨#[120]⟩ : ByteArray).size = 1 := rfl
    have hxs : ((⟨#[120]⟩ : ByteArray) ++ encT u).size = 1 + (encT u).size := by rw [ByteArray.size_append, hx]
    have hg := gtxt_mid (p := (⟨#[120]⟩ : ByteArray)) (t := u) hu (by omega)
    rw [hx, hxs] at hg
    have hc := gtxt_cut (t := u) hu (by omega) _ rfl
    rw [if_neg h8, if_pos (by omega), i_getText _ _ k (by omega), Option.bind_some, show (1 : Int) = ((1 : Nat) : Int) from rfl, hg]
    rw [if_pos (by simp; omega), if_pos (by omega), if_pos (by omega), i_getText _ _ k (by omega), Option.bind_some, Int.toNat_natCast, hc]
    rfl
theorem nums_j2 (k : Nat) (hk : 90 ≤ k) (l : List Int) (hl : (l.length : Int) ≤ 1048576) : laws_FnNums.j2 (k + 2) l false = some true := by
  obtain ⟨u, e⟩ := drawtext_ok hl (k + 1) (by omega)
  simp only [laws_FnNums.j2]
  rw [if_neg (by simp), e, Option.bind_some, i_putText u _ (by omega), Option.bind_some, s_putText u _ (by omega), Option.bind_some, if_pos rfl]
  by_cases hu : (u.size : Int) > 8000
  · have he : encT u = ⟨#[]⟩ := by unfold encT; rw [if_pos hu]
    have hb : ((encT u).toList == ([] : List UInt8)) = true := by rw [he]; decide +kernel
    rw [hb]
    exact nums_j3t k (by omega) u
  · have hb : ((encT u).toList == ([] : List UInt8)) = false ∨ ((encT u).toList == ([] : List UInt8)) = true := by cases ((encT u).toList == ([] : List UInt8)) <;> simp
    rcases hb with hb | hb
    · rw [hb]; exact nums_j3f k (by omega) u (by omega)
    · rw [hb]; exact nums_j3t k (by omega) u
theorem nums_j1 (k : Nat) (hk : 100 ≤ k) (l : List Int) (hl : (l.length : Int) ≤ 1048576) (n : Int) (hn : -9223372036854775808 ≤ n ∧ n ≤ 9223372036854775807) : laws_FnNums.j1 (k + 3) l n (encN n) false = some true := by
  have hs := encN_size n
  have hp : 0 < (encN n).size := by rw [encN_len]; exact vi_pos 9 (zz n)
  have hx : (⟨#[120, 121]⟩ : ByteArray).size = 2 := rfl
  have hz : (⟨#[122]⟩ : ByteArray).size = 1 := rfl
  have hg := gnum_mid (p := (⟨#[120, 121]⟩ : ByteArray)) (q := (⟨#[122]⟩ : ByteArray)) (n := n) (by simp only [ByteArray.size_append, hx, hz]; omega) hn
  rw [hx] at hg
  have hc := gnum_cut hn _ rfl
  have w1 : wrap64 (((encN n).size : Int) + 2) = ((2 : Nat) : Int) + ((encN n).size : Int) := by rw [wrap64_id (by omega) (by omega)]; omega
  have w2 : wrap64 (((encN n).size : Int) - 1) = (((encN n).size - 1 : Nat) : Int) := by rw [wrap64_id (by omega) (by omega)]; omega
  simp only [laws_FnNums.j1]
  rw [if_neg (by simp), if_pos (by omega), if_pos (by omega), i_getNum _ _ _ (by omega), Option.bind_some, w1, w2, show (2 : Int) = ((2 : Nat) : Int) from rfl, hg]
  rw [if_neg (by simp), if_pos (by omega), if_pos (by omega), i_getNum _ _ _ (by omega), Option.bind_some, Int.toNat_natCast, hc]
  exact nums_j2 k (by omega) l hl
theorem FnNums : laws_FnNums.Pure := by
  intro l0 l1 _ _ _ _ _ _
  refine ⟨104, ?_⟩
  unfold laws_FnNums.f
  simp only [laws_FnNums.j0]
  by_cases h0 : (l0.length : Int) > 1048576
  · rw [if_pos h0, if_pos trivial]
  · rw [if_neg h0]
    by_cases h1 : (l1.length : Int) > 1048576
    · rw [if_pos (by simpa using h1)]
    · rw [if_neg (by simpa using h1)]
      obtain ⟨n, e, hn⟩ := drawnum_ok (l := l0) (by omega) 103 (by omega)
      have hs := encN_size n
      have hp : 0 < (encN n).size := by rw [encN_len]; exact vi_pos 9 (zz n)
      rw [e, Option.bind_some, i_putNum hn _ (by omega), Option.bind_some, s_putNum hn _ (by omega), Option.bind_some, if_pos rfl, if_neg (by omega), decide_eq_false (by omega)]
      exact nums_j1 100 (by omega) l1 (by omega) n hn

end Go.Proofs.Ytkbhdiambabnnaa.Pure
