import Derived.Test.YtngjglbakgdgaaaGreatDoorPlPace
import Derived.Test.YtngjglbakgdgaaaGreatDoorYPUSpec
set_option linter.all false
namespace Go.Sx.T
open Go Go.Sx
theorem PaceFull_true {s tick x d : Int} (hx : U x) : PaceFull s tick x d = some [.b true] := by
  obtain ⟨N, hN0, hN1, eN⟩ := rem_N (m := 1400) (by decide) (by decide) s
  obtain ⟨K, hK0, hK1, eK⟩ := rem_N (m := 100000) (by decide) (by decide) tick
  obtain ⟨S, hS⟩ : ∃ S, S = 1 + N := ⟨_, rfl⟩
  have e1 : addI .i64 1 N = S := by rw [addI_i (show I63 (1 + N) by unfold I63; omega), hS]
  obtain ⟨X, hX⟩ : ∃ X, X = 1 + x % 1000000000 := ⟨_, rfl⟩
  have e2 : addI .u64 1 (remI .u64 x 1000000000) = X := by rw [remI_u hx.1, addI_u, hX]; omega
  obtain ⟨D, hD⟩ : ∃ D, D = max 0 (min d 1125899906842624) := ⟨_, rfl⟩
  have s1 : 1 ≤ S := by omega
  have s2 : S ≤ 1400 := by omega
  have X0 : 1 ≤ X ∧ X ≤ 1000000000 := by omega
  have XU : U X := by unfold U; omega
  have p0 := PS.new s1 s2 hK0 (show K ≤ 1000000 by omega)
  have p1 := p0.rate (at_ := 0) (x := X) (by omega) (by omega) XU
  obtain ⟨C, hC⟩ : ∃ C, C = capI S K X := ⟨_, rfl⟩
  have hsat : satM X K = X * K := satM_eq' (by
    have : X * K ≤ 1000000000 * 100000 := Int.mul_le_mul X0.2 (by omega) hK0 (by omega)
    unfold M64; omega)
  have hXK : 0 ≤ X * K ∧ X * K ≤ 100000000000000 := ⟨Int.mul_nonneg (by omega) hK0, by
    have : X * K ≤ 1000000000 * 100000 := Int.mul_le_mul X0.2 (by omega) hK0 (by omega)
    omega⟩
  have hC1 : 64000000 ≤ C ∧ C ≤ 100000000000000 := by rw [hC]; unfold capI; rw [hsat]; omega
  have h1 : min (getH S K 0 0 0 0) (capI S K X) = 0 := by unfold getH; rw [if_pos (by omega), ← hC]; omega
  rw [h1, show max (0 : Int) 0 = 0 by omega] at p1
  have q1 : quoI .u64 C X = C / X := quoI_u (by unfold U; omega) (by omega)
  have hq : 0 ≤ C / X ∧ C / X ≤ C := ⟨Int.ediv_nonneg (by omega) (by omega), Int.ediv_le_self _ (by omega)⟩
  obtain ⟨A, hA⟩ : ∃ A, A = C / X + 1 + D := ⟨_, rfl⟩
  have e3 : wrapI .i64 (C / X) = C / X := wrapI_i (by unfold I63; omega)
  have e4 : addI .i64 (C / X) 1 = C / X + 1 := addI_i (by unfold I63; omega)
  have e5 : addI .i64 (C / X + 1) D = A := by rw [addI_i (by unfold I63; omega), hA]
  have q2 : quoI .u64 C 64000000 = C / 64000000 := quoI_u (by unfold U; omega) (by omega)
  obtain ⟨n, hn⟩ : ∃ n, n = min (C / 64000000) 65535 := ⟨_, rfl⟩
  have e6 : wrapI .i64 n = n := wrapI_i (by unfold I63; omega)
  have e7 : addI .i64 n 1 = n + 1 := addI_i (by unfold I63; omega)
  -- full
  have hfull : getH S K 0 X 0 A = C := by
    unfold getH
    rw [if_neg (by omega), ← hC]
    have hXA : C ≤ X * (A - 0) := by
      have a1 : C < X * (C / X + 1) := by
        have := Int.lt_mul_ediv_self_add (x := C) (k := X) (by omega)
        rw [Int.mul_add]; omega
      have a2 : X * (C / X + 1) ≤ X * (A - 0) := Int.mul_le_mul_of_nonneg_left (by omega) (by omega)
      omega
    unfold satA satM M64; omega
  have p2 := p1.get (at_ := A) (by omega) (by omega)
  rw [hfull, show max (0 : Int) A = A by omega] at p2
  have gC : getH S K C X A A = C := if_pos (Int.le_refl _)
  unfold PaceFull
  simp only [one_ev, eN, eK, e1, e2, minI_eq, maxI_eq, ← hD, new_pace s1 s2 hK0 (show K ≤ 1000000 by omega), out_ev, un_i_ev, un_nil_ev, one_ev]
  rw [rate_t p0 (by omega) (by omega) XU, h1, show max (0 : Int) 0 = 0 by omega]
  simp only [out_ev, un_i_ev, un_nil_ev, cap_t s1 s2 hK0 (show K ≤ 1000000 by omega) XU, ← hC, q1, e3, e4, e5, q2, ← hn, e6, e7]
  rw [chk_pos (by omega), may_t p1 (by omega) (by omega), hfull, show max (0 : Int) A = A by omega]
  simp only [out_ev, un_i_ev, un_b_ev, un_nil_ev, one_ev]
  rw [show mayB C n = true from decide_eq_true (by omega), Bool.not_true, br_f]
  have two : ∀ {b : Int}, (out (pace_Take S K C X A A n) fun r => un_i r fun x1 r => un_i r fun x2 r => un_i r fun x3 r => un_i r fun x4 r => un_i r fun x5 r => un_b r fun x6 r => un_nil r <|
      br (!x6) (some [Leaf.b false]) (br (n == 0) (some [Leaf.b true]) (out (pace_Take x1 x2 x3 x4 x5 A n) fun r => un_i r fun y1 r => un_i r fun y2 r => un_i r fun y3 r => un_i r fun y4 r => un_i r fun y5 r => un_b r fun y6 r => un_nil r <|
        br (!y6) (some [Leaf.b true]) (some [Leaf.b (decide (C / 64000000 ≥ 131070))])))) = some [Leaf.b true] := by
    intro b
    rw [take_t p2 (by omega) (by omega), gC, show mayB C n = true from decide_eq_true (by omega), if_pos rfl, show max A A = A by omega]
    simp only [out_ev, un_i_ev, un_b_ev, un_nil_ev, Bool.not_true, br_f]
    by_cases hz : n = 0
    · rw [br_eq hz]
    · rw [br_ne hz]
      have p3 : PS S K (C - 64000000 * n) X A := ⟨s1, s2, hK0, by omega, by omega, by rw [← hC]; omega, XU, by omega, by omega⟩
      rw [take_t p3 (by omega) (by omega), show getH S K (C - 64000000 * n) X A A = C - 64000000 * n from if_pos (Int.le_refl _)]
      simp only [out_ev, un_i_ev, un_b_ev, un_nil_ev, one_ev]
      by_cases hm : mayB (C - 64000000 * n) n = true
      · have hm' := of_decide_eq_true hm
        rw [hm, Bool.not_true, br_f, decide_eq_true (by omega)]
      · rw [show mayB (C - 64000000 * n) n = false by simpa using hm, Bool.not_false, br_t]
  by_cases hl : C / 64000000 < 65535
  · rw [br_pos hl, may_t p2 (by omega) (by omega), gC, show max A A = A by omega]
    simp only [out_ev, un_i_ev, un_b_ev, un_nil_ev, one_ev]
    rw [show mayB C (n + 1) = false from decide_eq_false (by omega), br_f]
    exact two (b := 0)
  · rw [br_neg hl]
    exact two (b := 0)
end Go.Sx.T

