import Derived.Test.YtbjpcbghchfifaaGreatDoorYI1Spec
import Derived.Test.YtbjpcbghchfifaaGreatDoorPlDv
import Derived.Test.YtbjpcbghchfifaaGreatDoorPlRtt
set_option linter.all false
namespace Go.Sx.T
open Go Go.Sx
theorem fix_Mul_t {a b : Int} (ha : U a) (hb : U b) (h : U (a * b)) : fix_Mul a b = some [.i (a * b)] := by
  unfold fix_Mul
  simp only [bits_Mul64_t ha hb, out_ev, un_i_ev, un_nil_ev]
  unfold U at h
  rw [br_neg (by omega), show a * b % 18446744073709551616 = a * b by omega]
theorem fix_Add_t {a b : Int} (ha : 0 ≤ a) (hb : 0 ≤ b) (h : U (a + b)) : fix_Add a b = some [.i (a + b)] := by
  unfold fix_Add addLo addHi
  unfold U at h
  rw [chk_pos ⟨ha, hb⟩]
  simp only [one_ev]
  rw [br_neg (by omega), show (a + b + 0) % 18446744073709551616 = a + b by omega]
theorem ival_sums_one {o n : Int} (ho : 0 ≤ o) (ho1 : o < 1125899906842624) (hn : 0 ≤ n) (hn1 : n < 1125899906842624) : ival_sums [n] o = some [.i 5, .i (5 * max o n)] := by
  obtain ⟨t, ht⟩ : ∃ t, top = t + 1 + 1 := ⟨999999999999999999999998, by decide⟩
  unfold ival_sums ival_sums_d
  simp only [one_ev, minI_eq, List.length_cons, List.length_nil]
  rw [show min (Int.ofNat (0 + 1)) 8 = 1 by decide]
  have w0 : ival_Weight 0 = some [.i 5] := by rfl
  have hU : ∀ x : Int, 0 ≤ x → x < 1125899906842624 → fix_Mul x 5 = some [.i (x * 5)] := fun x h1 h2 => fix_Mul_t (by unfold U; omega) (by unfold U; omega) (by unfold U; omega)
  have c1 : condSl (rlOf [[Col.int .u64 [n]]] 0) none (some 1) = true := by rfl
  rw [c1, chk_t]
  simp only [w0, out_ev, un_i_ev, un_nil_ev, hU o ho ho1]
  rw [ht]
  simp only [ival_sums_4_L, ival_sums_4_B]
  rw [br_pos (by decide)]
  have c2 : decide ((0 : Int) ≤ offAdd (some (Int.ofNat 0)) 0 ∧ offAdd (some (Int.ofNat 0)) 0 < Int.ofNat [n].length) = true := by rfl
  rw [chk_pos (by decide), c2, chk_t]
  have c3 : List.getD [n] (Int.toNat (offAdd (some (Int.ofNat 0)) 0)) 0 = n := by rfl
  simp only [w0, out_ev, un_i_ev, un_nil_ev, one_ev, c3, hU n hn hn1]
  rw [fix_Add_t (a := 0) (b := n * 5) (by omega) (by omega) (by unfold U; omega)]
  simp only [w0, out_ev, un_i_ev, un_nil_ev, one_ev]
  rw [show subI .i64 1 1 = 0 by rfl, br_neg (by decide), show addI .i64 0 1 = 1 by rfl, show addI .u64 0 5 = 5 by rfl, br_neg (by decide)]
  simp only [beq00, br_t, un_li_ev, un_i_ev, un_nil_ev, one_ev, maxI_eq]
  congr 3
  · congr 1; omega
theorem IvalOne_true {o n : Int} (ho : U o) (hn : U n) : IvalOne o n = some [.b true] := by
  unfold IvalOne
  unfold U at ho hn
  have e1 : remI .u64 o 1125899906842624 = o % 1125899906842624 := remI_u ho.1
  have e2 : remI .u64 n 1125899906842624 = n % 1125899906842624 := remI_u hn.1
  obtain ⟨a, ha⟩ : ∃ a, a = o % 1125899906842624 := ⟨_, rfl⟩
  obtain ⟨b, hb⟩ : ∃ b, b = n % 1125899906842624 := ⟨_, rfl⟩
  simp only [one_ev, e1, e2, ← ha, ← hb, maxI_eq, minI_eq]
  have hs := ival_sums_one (o := a) (n := b) (by omega) (by omega) (by omega) (by omega)
  obtain ⟨m, hm⟩ : ∃ m, m = max a b := ⟨_, rfl⟩
  rw [← hm] at hs ⊢
  have hm0 : 0 ≤ m := by omega
  have hm1 : m < 1125899906842624 := by omega
  have hmd : fix_MulDiv 5 4294967296 (5 * m) = some [.i (mdI 5 4294967296 (5 * m))] := fix_MulDiv_t (by unfold U; omega) (by unfold U; omega) (by unfold U; omega)
  have hR : ival_Rate [b] a = some [.i (min (mdI 5 4294967296 (5 * m)) 4294967296)] := by
    unfold ival_Rate
    simp only [decide_true, Bool.and_true, chk_t, hs, out_ev, un_i_ev, un_nil_ev]
    rw [br_ne (by decide), hmd]
    simp only [out_ev, un_i_ev, un_nil_ev, one_ev, minI_eq]
  have hM : ival_Mean [b] a = some [.i m] := by
    unfold ival_Mean
    simp only [decide_true, Bool.and_true, chk_t, hs, out_ev, un_i_ev, un_nil_ev]
    rw [br_ne (by decide), chk_pos (by decide)]
    simp only [one_ev]
    rw [quoI_u (by unfold U; omega) (by omega), show 5 * m / 5 = m by omega]
  rw [show (decide ((↑1 : Int) = Int.ofNat (List.length [b])) && true) = true by rfl]
  simp only [chk_t, hR, hM, out_ev, un_i_ev, un_nil_ev]
  by_cases h0 : m = 0
  · rw [br_eq h0, h0]
    rw [show min (mdI 5 4294967296 (5 * 0)) 4294967296 = 4294967296 by decide, br_eq rfl]
    rfl
  · rw [br_ne h0, br_eq rfl, chk_pos (by exact h0), quoI_u (by unfold U; omega) (by omega)]
    have : min (mdI 5 4294967296 (5 * m)) 4294967296 = min 4294967296 (4294967296 / m) := by
      unfold mdI
      rw [if_neg (by omega)]
      have h1 : 5 * 4294967296 / (5 * m) = 4294967296 / m := Int.mul_ediv_mul_of_pos _ _ (by decide)
      rw [h1]
      have h2 : 4294967296 / m ≤ 4294967296 := Int.ediv_le_self _ (by decide)
      omega
    rw [this]
    simp
end Go.Sx.T

