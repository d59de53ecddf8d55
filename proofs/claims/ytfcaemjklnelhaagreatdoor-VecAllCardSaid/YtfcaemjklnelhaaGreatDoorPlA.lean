import Derived.Test.YtfcaemjklnelhaaGreatDoorL6
import Derived.Laws.MathBits
set_option linter.all false
namespace Go.Sx
open Go
def U (x : Int) : Prop := 0 ≤ x ∧ x < 18446744073709551616
def I63 (x : Int) : Prop := -9223372036854775808 ≤ x ∧ x < 9223372036854775808
theorem wrap_u64 (n : Int) : IntKind.wrap .u64 n = n % 18446744073709551616 := by
  simp [IntKind.wrap, IntKind.bits, IntKind.signed]
theorem wrap_i64 (n : Int) : IntKind.wrap .i64 n = (n + 9223372036854775808) % 18446744073709551616 - 9223372036854775808 := by
  have : IntKind.wrap .i64 n = if n % 18446744073709551616 ≥ 9223372036854775808 then n % 18446744073709551616 - 18446744073709551616 else n % 18446744073709551616 := by
    simp [IntKind.wrap, IntKind.bits, IntKind.signed]
  rw [this]
  split <;> omega
theorem wrap_u8 (n : Int) : IntKind.wrap .u8 n = n % 256 := by
  simp [IntKind.wrap, IntKind.bits, IntKind.signed]
theorem wrap_i64_id {n : Int} (h : I63 n) : IntKind.wrap .i64 n = n := by
  rw [wrap_i64]; unfold I63 at h; omega
theorem wrap_u64_id {n : Int} (h : U n) : IntKind.wrap .u64 n = n := by
  rw [wrap_u64]; unfold U at h; omega
theorem addI_u (a b : Int) : addI .u64 a b = (a + b) % 18446744073709551616 := wrap_u64 _
theorem subI_u (a b : Int) : subI .u64 a b = (a - b) % 18446744073709551616 := wrap_u64 _
theorem mulI_u (a b : Int) : mulI .u64 a b = (a * b) % 18446744073709551616 := wrap_u64 _
theorem wrapI_u (a : Int) : wrapI .u64 a = a % 18446744073709551616 := wrap_u64 _
theorem wrapI_u8 (a : Int) : wrapI .u8 a = a % 256 := wrap_u8 _
theorem addI_i {a b : Int} (h : I63 (a + b)) : addI .i64 a b = a + b := wrap_i64_id h
theorem subI_i {a b : Int} (h : I63 (a - b)) : subI .i64 a b = a - b := wrap_i64_id h
theorem mulI_i {a b : Int} (h : I63 (a * b)) : mulI .i64 a b = a * b := wrap_i64_id h
theorem wrapI_i {a : Int} (h : I63 a) : wrapI .i64 a = a := wrap_i64_id h
theorem quoI_u {a b : Int} (ha : U a) (hb : 0 < b) : quoI .u64 a b = a / b := by
  unfold quoI
  rw [wrap_u64, Int.tdiv_eq_ediv_of_nonneg ha.1]
  have h1 : 0 ≤ a / b := Int.ediv_nonneg ha.1 (by omega)
  have h2 : a / b ≤ a := Int.ediv_le_self _ ha.1
  have := ha.2
  omega
theorem remI_u {k : IntKind} {a b : Int} (ha : 0 ≤ a) : remI k a b = a % b := by
  unfold remI
  rw [Int.tmod_eq_emod_of_nonneg ha]
theorem shrI_u (k : IntKind) (hk : k.bits = 64) (a : Int) (n : Nat) (hn : n ≤ 64) : shrI k a (n : Int) = a / (2 ^ n : Int) := by
  unfold shrI
  rw [hk, Int.toNat_natCast, Nat.min_eq_left hn, Int.fdiv_eq_ediv_of_nonneg]
  exact Int.pow_nonneg (by decide)
theorem shlI_u (a : Int) (n : Nat) (hn : n ≤ 64) : shlI .u64 a (n : Int) = (a * 2 ^ n) % 18446744073709551616 := by
  unfold shlI
  rw [wrap_u64, Int.toNat_natCast, show (IntKind.u64).bits = 64 from rfl, Nat.min_eq_left hn]
theorem ofInt_nat (a : Nat) : BitVec.ofInt 64 (a : Int) = BitVec.ofNat 64 a := by
  apply BitVec.eq_of_toNat_eq
  simp
theorem andI_nat (a b : Nat) (ha : a < 2 ^ 64) (hb : b < 2 ^ 64) : andI .u64 a b = ((a &&& b : Nat) : Int) := by
  unfold andI
  rw [show (IntKind.u64).bits = 64 from rfl, ofInt_nat, ofInt_nat, BitVec.toNat_and, BitVec.toNat_ofNat, BitVec.toNat_ofNat, Nat.mod_eq_of_lt ha, Nat.mod_eq_of_lt hb]
  have : (a &&& b) < 2 ^ 64 := Nat.and_lt_two_pow _ hb
  rw [wrap_u64]
  have e : (2 : Nat) ^ 64 = 18446744073709551616 := by decide
  omega
theorem orI_nat (a b : Nat) (ha : a < 2 ^ 64) (hb : b < 2 ^ 64) : orI .u64 a b = ((a ||| b : Nat) : Int) := by
  unfold orI
  rw [show (IntKind.u64).bits = 64 from rfl, ofInt_nat, ofInt_nat, BitVec.toNat_or, BitVec.toNat_ofNat, BitVec.toNat_ofNat, Nat.mod_eq_of_lt ha, Nat.mod_eq_of_lt hb]
  have : (a ||| b) < 2 ^ 64 := Nat.or_lt_two_pow ha hb
  rw [wrap_u64]
  have e : (2 : Nat) ^ 64 = 18446744073709551616 := by decide
  omega
theorem toNat_lt {x : Int} (h : U x) : x.toNat < 2 ^ 64 := by
  have := h.1; have := h.2
  have e : (2 : Nat) ^ 64 = 18446744073709551616 := by decide
  omega
theorem andI_mask {x : Int} (h : U x) (k : Nat) (hk : k ≤ 64) (m : Int) (hm : m = 2 ^ k - 1) : andI .u64 x m = x % 2 ^ k := by
  subst hm
  have hx : x = (x.toNat : Int) := (Int.toNat_of_nonneg h.1).symm
  have hp : (2 ^ k - 1 : Int) = ((2 ^ k - 1 : Nat) : Int) := by
    rw [Int.natCast_sub (Nat.one_le_two_pow)]
    push_cast
    rfl
  have hk2 : 2 ^ k ≤ 2 ^ 64 := Nat.pow_le_pow_right (by decide) hk
  rw [hx, hp, andI_nat _ _ (toNat_lt h) (by have := Nat.two_pow_pos k; omega), Nat.and_two_pow_sub_one_eq_mod]
  push_cast
  rfl
theorem orI_bit {r : Int} (hr : U r) (i : Nat) (hi : i < 64) (hm : r % 2 ^ (i + 1) = 0) : orI .u64 r (2 ^ i) = r + 2 ^ i := by
  have hx : r = (r.toNat : Int) := (Int.toNat_of_nonneg hr.1).symm
  have hp : (2 ^ i : Int) = ((2 ^ i : Nat) : Int) := by push_cast; rfl
  have hlt : 2 ^ i < 2 ^ 64 := Nat.pow_lt_pow_right (by decide) hi
  rw [hx, hp, orI_nat _ _ (toNat_lt hr) hlt]
  have hm' : r.toNat % 2 ^ (i + 1) = 0 := by
    have : ((r.toNat % 2 ^ (i + 1) : Nat) : Int) = 0 := by push_cast; rw [← hx]; exact hm
    exact_mod_cast this
  obtain ⟨q, hq⟩ := Nat.dvd_of_mod_eq_zero hm'
  have : r.toNat ||| 2 ^ i = r.toNat + 2 ^ i := by
    rw [hq, Nat.two_pow_add_eq_or_of_lt (Nat.pow_lt_pow_right (by decide) (Nat.lt_succ_self i))]
  rw [this]
  push_cast
  rfl
theorem quoI_n {a b : Int} (ha : 0 ≤ a) (h : a < 9223372036854775808) (hb : 0 < b) : quoI .i64 a b = a / b := by
  unfold quoI
  rw [Int.tdiv_eq_ediv_of_nonneg ha]
  refine wrap_i64_id ?_
  have h1 : 0 ≤ a / b := Int.ediv_nonneg ha (by omega)
  have h2 : a / b ≤ a := Int.ediv_le_self _ ha
  unfold I63; omega
theorem maxI_eq (a b : Int) : maxI a b = max a b := by unfold maxI; split <;> omega
theorem minI_eq (a b : Int) : minI a b = min a b := by unfold minI; split <;> omega
theorem chk_len (n : Int) {α : Type} (x : Option α) : chk (decide (n = n) && true) x = x := by
  rw [decide_eq_true rfl]; exact chk_t x
theorem chk_T {α : Type} (x : Option α) : chk (decide True && true) x = x := by
  rw [decide_eq_true trivial]; exact chk_t x
theorem rem_N {m : Int} (hm : 0 < m) (hm1 : m < 4611686018427387904) (n : Int) : ∃ N, 0 ≤ N ∧ N < m ∧ remI .i64 (addI .i64 (remI .i64 n m) m) m = N := by
  unfold remI
  have h1 := Int.tmod_lt_of_pos n hm
  have h2 := Int.lt_tmod_of_pos n hm
  rw [addI_i (show I63 (n.tmod m + m) by unfold I63; omega), Int.tmod_eq_emod_of_nonneg (show 0 ≤ n.tmod m + m by omega)]
  exact ⟨(n.tmod m + m) % m, Int.emod_nonneg _ (by omega), Int.emod_lt_of_pos _ hm, rfl⟩
end Go.Sx

