import Derived.Test.YtopcljhdejindaaGreatDoorPlWinX
import Derived.Test.YtopcljhdejindaaGreatDoorYWASpec
set_option linter.all false
namespace Go.Sx.T
open Go Go.Sx
theorem avoid6 {n more : Int} (hn : n ≤ 23) : ∀ (k f : Nat) (c : Int), k < f → c + k = n → 3 ≤ c →
    ∀ {α : Type} (kx : Nat → List Leaf → Option α) (kr : List Leaf → Option α), WinAvoid_6_L kx kr f c 1000000 0 0 0 false 0 false false 0 false 0 0 3000000 n more =
      kx 0 [.i n, .i 1000000, .i 0, .i 0, .i 0, .b false, .i 0, .b false, .b false, .i 0, .b false, .i 0, .i 0, .i 3000000, .i n, .i more] := by
  intro k
  induction k with
  | zero =>
    intro f c hf hk hc α kx kr
    obtain ⟨f, rfl⟩ : ∃ f', f = f' + 1 := ⟨f - 1, by omega⟩
    simp only [WinAvoid_6_L, WinAvoid_6_B, win_Cwnd, out_ev, un_i_ev, un_nil_ev]
    rw [br_neg (by omega), show c = n by omega]
  | succ k ih =>
    intro f c hf hk hc α kx kr
    obtain ⟨f, rfl⟩ : ∃ f', f = f' + 1 := ⟨f - 1, by omega⟩
    simp only [WinAvoid_6_L, WinAvoid_6_B, win_Cwnd, out_ev, un_i_ev, un_nil_ev]
    rw [br_pos (by omega)]
    refine (chk_b' rfl).trans ?_
    rw [show remI .i64 (addI .i64 (remI .i64 0 3) 3) 3 = 0 by decide, show maxI (-1) (minI (-1) 1099511627776) = -1 by decide, hear_got0 (by omega) (by omega) (by omega) (by omega) (grow_slow (by omega) (by omega) (by omega) (by omega) (by omega))]
    simp only [out_ev, un_i_ev, un_b_ev, un_nil_ev]
    exact ih f (c + 1) (by omega) (by omega) (by omega) kx kr
theorem avoid13 {n more s hn ln due : Int} (hs : 2 ≤ s) (hm : more ≤ 100) : ∀ (j f : Nat) (c k i : Int), j < f → i + j = more → 0 ≤ i → s ≤ c → c ≤ 100 + i → 0 ≤ k → k < c →
    ∃ c' k', ∀ {α : Type} (kx : Nat → List Leaf → Option α) (kr : List Leaf → Option α), WinAvoid_13_L kx kr f c s 0 k hn true ln true false due false 0 0 3000000 i c k n more =
      kx 2 [.i c', .i s, .i 0, .i k', .i hn, .b true, .i ln, .b true, .b false, .i due, .b false, .i 0, .i 0, .i 3000000, .i n] := by
  intro j
  induction j with
  | zero =>
    intro f c k i hf hj hi hc hc1 hk hk1
    obtain ⟨f, rfl⟩ : ∃ f', f = f' + 1 := ⟨f - 1, by omega⟩
    refine ⟨c, k, fun kx kr => ?_⟩
    simp only [WinAvoid_13_L, WinAvoid_13_B]
    rw [br_neg (by omega)]
  | succ j ih =>
    intro f c k i hf hj hi hc hc1 hk hk1
    obtain ⟨f, rfl⟩ : ∃ f', f = f' + 1 := ⟨f - 1, by omega⟩
    have e1 : addI .i64 k 1 = k + 1 := addI_i (by unfold I63; omega)
    have e2 : subI .i64 (k + 1) c = k + 1 - c := subI_i (by unfold I63; omega)
    have e3 : addI .i64 c 1 = c + 1 := addI_i (by unfold I63; omega)
    have e4 : addI .i64 i 1 = i + 1 := addI_i (by unfold I63; omega)
    by_cases hg : k + 1 ≥ c
    · obtain ⟨c', k', e⟩ := ih f (c + 1) (k + 1 - c) (i + 1) (by omega) (by omega) (by omega) (by omega) (by omega) (by omega) (by omega)
      refine ⟨c', k', fun kx kr => ?_⟩
      simp only [WinAvoid_13_L, WinAvoid_13_B, one_ev]
      rw [br_pos (by omega)]
      refine (chk_b' rfl).trans ?_
      rw [hear_got0 (by omega) (by omega) (by omega) (by omega) (grow_avoid hc (by omega) (by omega) hk hk1), if_pos hg, if_pos hg]
      simp only [out_ev, un_i_ev, un_b_ev, un_nil_ev, e1]
      rw [br_pos hg]
      simp only [e2, e3, e4, win_Cwnd, out_ev, un_i_ev, un_nil_ev, bne_self_eq_false, br_f]
      exact e kx kr
    · obtain ⟨c', k', e⟩ := ih f c (k + 1) (i + 1) (by omega) (by omega) (by omega) (by omega) (by omega) (by omega) (by omega)
      refine ⟨c', k', fun kx kr => ?_⟩
      simp only [WinAvoid_13_L, WinAvoid_13_B, one_ev]
      rw [br_pos (by omega)]
      refine (chk_b' rfl).trans ?_
      rw [hear_got0 (by omega) (by omega) (by omega) (by omega) (grow_avoid hc (by omega) (by omega) hk hk1), if_neg hg, if_neg hg]
      simp only [out_ev, un_i_ev, un_b_ev, un_nil_ev, e1]
      rw [br_neg hg]
      simp only [e4, win_Cwnd, out_ev, un_i_ev, un_nil_ev, bne_self_eq_false, br_f]
      exact e kx kr
theorem WinAvoid_true (n more : Int) : WinAvoid n more = some [.b true] := by
  obtain ⟨N, hN0, hN1, eN⟩ := rem_N (m := 20) (by decide) (by decide) n
  obtain ⟨M, hM0, hM1, eM⟩ := rem_N (m := 100) (by decide) (by decide) more
  obtain ⟨m, hm⟩ : ∃ m, m = 4 + N := ⟨_, rfl⟩
  have e1 : addI .i64 4 N = m := by rw [addI_i (show I63 (4 + N) by unfold I63; omega), hm]
  have q1 : quoI .i64 m 2 = m / 2 := quoI_n (by omega) (by omega) (by omega)
  unfold WinAvoid WinAvoid_d
  simp only [one_ev, eN, eM, e1, new_win, out_ev, un_i_ev, un_b_ev, un_nil_ev]
  rw [avoid6 (by omega) (m - 3).toNat top 3 (by unfold top; omega) (by omega) (by omega)]
  simp only [beq00, br_t, un_i_ev, un_b_ev, un_nil_ev]
  rw [sent_go0 (by omega) (by omega) (by omega) (by omega) (by omega) (by omega) (by omega)]
  simp only [out_ev, un_i_ev, un_b_ev, un_nil_ev]
  refine (chk_b' rfl).trans ?_
  rw [lost_halves (by omega) (by omega) (by omega) (by omega) (by omega) (by omega) (by omega) (by omega) (.inl rfl)]
  simp only [out_ev, un_i_ev, un_b_ev, un_nil_ev, q1]
  rw [show (max ((0 : Int) + 1 - 1) 0) = 0 by decide, show max (m / 2) 1 = m / 2 by omega, show decide ((0 : Int) > 0) = false by decide, if_neg (show ¬ (0 : Int) > 0 by decide)]
  obtain ⟨c', k', e⟩ := avoid13 (n := m) (more := M) (s := m / 2) (hn := sqI 50) (ln := sqI 50) (due := 0 + 3000000) (by omega) (by omega) M.toNat top (m / 2) 0 0 (by unfold top; omega) (by omega) (by omega) (by omega) (by omega) (by omega) (by omega)
  rw [e]
  simp only [show Nat.beq 2 2 = true by rfl, br_t, un_i_ev, un_b_ev, un_nil_ev, win_Slow, out_ev, q1, beq_self_eq_true]
end Go.Sx.T

