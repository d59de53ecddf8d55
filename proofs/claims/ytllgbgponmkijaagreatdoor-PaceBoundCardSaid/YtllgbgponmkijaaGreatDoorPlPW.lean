import Derived.Test.YtllgbgponmkijaaGreatDoorPlPace
import Derived.Test.YtllgbgponmkijaaGreatDoorYPWSpec
set_option linter.all false
namespace Go.Sx.T
open Go Go.Sx
/-- How long the rest takes. -/
def upI (l r : Int) : Int := if l % r > 0 then l / r + 1 else l / r
theorem upI_b {l r : Int} (hl : 0 < l) (hr : 0 < r) : 1 ≤ upI l r ∧ upI l r ≤ l ∧ l ≤ r * upI l r ∧ r * (upI l r - 1) < l := by
  have h1 := Int.mul_ediv_add_emod l r
  have h2 := Int.emod_nonneg l (show r ≠ 0 by omega)
  have h3 := Int.emod_lt_of_pos l hr
  have h4 : 0 ≤ l / r := Int.ediv_nonneg (by omega) (by omega)
  have h5 : l / r ≤ l := Int.ediv_le_self _ (by omega)
  have h6 : l / r ≤ r * (l / r) := by
    have := Int.mul_le_mul_of_nonneg_right (show (1 : Int) ≤ r by omega) h4
    omega
  unfold upI
  split
  · rename_i h
    refine ⟨by omega, by omega, ?_, ?_⟩
    · rw [Int.mul_add]; omega
    · rw [show l / r + 1 - 1 = l / r by omega]; omega
  · rename_i h
    have : l % r = 0 := by omega
    have hne : l / r ≠ 0 := by
      intro e
      rw [e] at h1; omega
    refine ⟨by omega, h5, by omega, ?_⟩
    rw [Int.mul_sub]; omega
theorem when_zero {s k h r now : Int} (p : PS s k h r now) : pace_When s k h r now 0 = some [.i now] := by
  have hh : U h := by have := capI_U p.s1 p.s2 p.k0 p.r; have := p.h0; have := p.h1; unfold U at *; omega
  have h0 := p.h0; have n1 := p.n1
  unfold pace_When
  rw [br_neg (by omega), br_neg (by omega)]
  simp only [one_ev, show mulI .u64 64000000 (wrapI .u64 0) = 0 by decide, fix_Sub_s (show U 0 by unfold U; omega) hh, out_ev, un_i_ev, un_nil_ev, minI_eq]
  rw [show subS 0 h = 0 by unfold subS; omega, br_eq rfl, Int.min_eq_left n1]
theorem when_pos {s k h r now n : Int} (p : PS s k h r now) (hn : 0 < n) (hn1 : n ≤ 65535) (hlt : h < 64000000 * n) :
    pace_When s k h r now n = some [.i (if r = 0 ∨ 64000000 * n > capI s k r then 4611686018427387904 else min (now + upI (64000000 * n - h) r) 4611686018427387904)] := by
  have hh : U h := by have := capI_U p.s1 p.s2 p.k0 p.r; have := p.h0; have := p.h1; unfold U at *; omega
  have h0 := p.h0; have n0 := p.n0; have n1 := p.n1
  have hr := p.r
  have e1 : wrapI .u64 n = n := by rw [wrapI_u]; omega
  have e2 : mulI .u64 64000000 n = 64000000 * n := by rw [mulI_u]; omega
  have e3 : subS (64000000 * n) h = 64000000 * n - h := by unfold subS; omega
  have e4 : wrapI .u64 now = now := by rw [wrapI_u]; omega
  obtain ⟨L, hL⟩ : ∃ L, L = 64000000 * n - h := ⟨_, rfl⟩
  unfold pace_When
  rw [br_neg (by omega), br_neg (by omega)]
  simp only [one_ev, e1, e2, fix_Sub_s (show U (64000000 * n) by unfold U; omega) hh, e3, e4, ← hL, out_ev, un_i_ev, un_nil_ev, minI_eq]
  rw [br_ne (by omega)]
  by_cases hr0 : r = 0
  · rw [br_eq hr0, if_pos (.inl hr0)]
  · rw [br_ne hr0]
    simp only [cap_t p.s1 p.s2 p.k0 p.k1 p.r, out_ev, un_i_ev, un_nil_ev]
    by_cases hc : 64000000 * n > capI s k r
    · rw [br_pos hc, if_pos (.inr hc)]
    · unfold U at hr
      have hb := upI_b (l := L) (r := r) (by omega) (by omega)
      rw [br_neg hc, if_neg (by omega), chk_pos hr0, chk_pos hr0, quoI_u (show U L by unfold U; omega) (by omega), remI_u (by omega)]
      have hd : 0 ≤ L / r := Int.ediv_nonneg (by omega) (by omega)
      have hd1 : L / r ≤ L := Int.ediv_le_self _ (by omega)
      have fin : ∀ w : Int, 0 ≤ w → w ≤ L → wrapI .i64 (min (satA now w) 4611686018427387904) = min (now + w) 4611686018427387904 := by
        intro w w0 w1
        have : satA now w = now + w := by unfold satA M64; omega
        rw [this]
        exact wrapI_i (by unfold I63; omega)
      unfold upI at hb ⊢
      by_cases hm : L % r > 0
      · rw [if_pos hm] at hb
        have e5 : addI .u64 (L / r) 1 = L / r + 1 := by rw [addI_u]; omega
        rw [br_pos hm, if_pos hm, e5, fix_Add_s n0 (by omega)]
        simp only [out_ev, un_i_ev, un_nil_ev]
        rw [fin _ (by omega) (by omega)]
      · rw [br_neg hm, if_neg hm, fix_Add_s n0 hd]
        simp only [out_ev, un_i_ev, un_nil_ev]
        rw [fin _ hd hd1]
theorem PaceWhen_true {s n x at_ : Int} (hx : U x) : PaceWhen s n x at_ = some [.b true] := by
  obtain ⟨N, hN0, hN1, eN⟩ := rem_N (m := 1400) (by decide) (by decide) s
  obtain ⟨m, hm0, hm1, em⟩ := rem_N (m := 1500) (by decide) (by decide) n
  obtain ⟨S, hS⟩ : ∃ S, S = 1 + N := ⟨_, rfl⟩
  have e1 : addI .i64 1 N = S := by rw [addI_i (show I63 (1 + N) by unfold I63; omega), hS]
  obtain ⟨X, hX⟩ : ∃ X, X = x % 100000000 := ⟨_, rfl⟩
  have e2 : remI .u64 x 100000000 = X := by rw [remI_u hx.1, hX]
  obtain ⟨A, hA⟩ : ∃ A, A = max 0 (min at_ 1099511627776) := ⟨_, rfl⟩
  have s1 : 1 ≤ S := by omega
  have s2 : S ≤ 1400 := by omega
  have X0 : 0 ≤ X ∧ X < 100000000 := by omega
  have XU : U X := by unfold U; omega
  have hcap : capI S 0 X = 64000000 * S := by unfold capI satM M64; rw [Int.mul_zero]; omega
  have p0 := PS.new s1 s2 (show (0 : Int) ≤ 0 by omega) (by omega)
  have p1 := p0.rate (at_ := A) (x := X) (by omega) (by omega) XU
  have h1 : min (getH S 0 0 0 0 A) (capI S 0 X) = 0 := by
    unfold getH
    split
    · rw [hcap]; omega
    · unfold satA satM M64
      rw [Int.zero_mul]
      have := capI_U s1 s2 (show (0 : Int) ≤ 0 by omega) (show U 0 by unfold U; omega)
      unfold U at this
      rw [hcap]; omega
  rw [h1, show max (0 : Int) A = A by omega] at p1
  unfold PaceWhen
  simp only [one_ev, eN, em, e1, e2, minI_eq, maxI_eq, ← hA, new_pace s1 s2 (show (0 : Int) ≤ 0 by omega) (show (0 : Int) ≤ 1000000 by omega), out_ev, un_i_ev, un_nil_ev]
  rw [rate_t p0 (by omega) (by omega) XU, h1, show max (0 : Int) A = A by omega]
  simp only [out_ev, un_i_ev, un_nil_ev]
  have zero : m = 0 → br (A == A) (out (pace_Take S 0 0 X A A 0) fun r => un_i r fun _ r => un_i r fun _ r => un_i r fun _ r => un_i r fun _ r => un_i r fun _ r => un_b r fun x r => un_nil r (some [Leaf.b x])) (some [Leaf.b false]) = some [Leaf.b true] := by
    intro _
    rw [beq_self_eq_true, br_t, take_t p1 (by omega) (by omega)]
    simp only [out_ev, un_i_ev, un_b_ev, un_nil_ev]
    rw [show mayB (getH S 0 0 X A A) 0 = true from decide_eq_true (by rw [show getH S 0 0 X A A = 0 from if_pos (Int.le_refl _)]; omega)]
  by_cases hz : m = 0
  · rw [hz, when_zero p1]
    simp only [out_ev, un_i_ev, un_nil_ev]
    rw [br_neg (by omega)]
    by_cases hx0 : X = 0
    · rw [br_eq hx0, br_neg (by omega), br_eq rfl]
      exact zero hz
    · rw [br_ne hx0, br_eq rfl]
      exact zero hz
  · rw [when_pos p1 (by omega) (by omega) (by omega), hcap]
    simp only [out_ev, un_i_ev, un_nil_ev]
    by_cases hms : m > S
    · rw [br_pos hms, if_pos (by omega), beq_self_eq_true]
    · rw [br_neg hms]
      by_cases hx0 : X = 0
      · rw [br_eq hx0, br_pos (by omega), if_pos (by omega), beq_self_eq_true]
      · rw [br_ne hx0, br_ne hz, if_neg (by omega)]
        obtain ⟨u1, u2, u3, u4⟩ := upI_b (l := 64000000 * m - 0) (r := X) (by omega) (by omega)
        obtain ⟨W, hW⟩ : ∃ W, W = upI (64000000 * m - 0) X := ⟨_, rfl⟩
        rw [← hW] at u1 u2 u3 u4 ⊢
        rw [show min (A + W) 4611686018427387904 = A + W by omega]
        have e3 : subI .i64 (A + W) 1 = A + W - 1 := subI_i (by unfold I63; omega)
        have g1 : 64000000 * m ≤ getH S 0 0 X A (A + W) := by
          unfold getH
          rw [if_neg (by omega), hcap, show A + W - A = W by omega]
          unfold satA satM M64; omega
        have g2 : getH S 0 0 X A (A + W - 1) < 64000000 * m := by
          unfold getH
          split
          · omega
          · rw [show A + W - 1 - A = W - 1 by omega]
            unfold satA satM M64; omega
        simp only [e3]
        rw [br_pos (by omega), br_pos (by omega), may_t p1 (by omega) (by omega)]
        simp only [out_ev, un_i_ev, un_b_ev, un_nil_ev]
        rw [show mayB (getH S 0 0 X A (A + W)) m = true from decide_eq_true (by omega), br_t, may_t p1 (by omega) (by omega)]
        simp only [out_ev, un_i_ev, un_b_ev, un_nil_ev]
        rw [show mayB (getH S 0 0 X A (A + W - 1)) m = false from decide_eq_false (by omega)]
        rfl
end Go.Sx.T

