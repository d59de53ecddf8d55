import Derived.Test.YtopcljhdejindaaGreatDoorPlWinX
import Derived.Test.YtopcljhdejindaaGreatDoorYWMSpec
set_option linter.all false
namespace Go.Sx.T
open Go Go.Sx
theorem marks6 {n : Int} {ms : List Int} (hn : n ≤ 40) : ∀ (k f : Nat) (c : Int), k < f → c + k = n → 3 ≤ c →
    ∀ {α : Type} (kx : Nat → List Leaf → Option α) (kr : List Leaf → Option α), WinMarks_6_L kx kr f ms c 1000000 0 0 0 false 0 false false 0 false 0 0 3000000 n =
      kx 0 [.li ms, .i n, .i 1000000, .i 0, .i 0, .i 0, .b false, .i 0, .b false, .b false, .i 0, .b false, .i 0, .i 0, .i 3000000, .i n] := by
  intro k
  induction k with
  | zero =>
    intro f c hf hk hc α kx kr
    obtain ⟨f, rfl⟩ : ∃ f', f = f' + 1 := ⟨f - 1, by omega⟩
    simp only [WinMarks_6_L, WinMarks_6_B, win_Cwnd, out_ev, un_i_ev, un_nil_ev, chk_len, chk_T]
    rw [br_neg (by omega), show c = n by omega]
  | succ k ih =>
    intro f c hf hk hc α kx kr
    obtain ⟨f, rfl⟩ : ∃ f', f = f' + 1 := ⟨f - 1, by omega⟩
    simp only [WinMarks_6_L, WinMarks_6_B, win_Cwnd, out_ev, un_i_ev, un_nil_ev, chk_len, chk_T]
    rw [br_pos (by omega)]
    refine (chk_b' rfl).trans ?_
    rw [show remI .i64 (addI .i64 (remI .i64 0 3) 3) 3 = 0 by decide, show maxI (-1) (minI (-1) 1099511627776) = -1 by decide, hear_got0 (by omega) (by omega) (by omega) (by omega) (grow_slow (by omega) (by omega) (by omega) (by omega) (by omega))]
    simp only [out_ev, un_i_ev, un_b_ev, un_nil_ev]
    exact ih f (c + 1) (by omega) (by omega) (by omega) kx kr
theorem marks10 {n : Int} {ms : List Int} (hn : n ≤ 40) : ∀ (k f : Nat) (i ln due : Int), k < f → i + k = n → 1 ≤ i → ln = 100 + i - 1 →
    ∀ {α : Type} (kx : Nat → List Leaf → Option α) (kr : List Leaf → Option α), WinMarks_10_L kx kr f ms n 1000000 i 0 0 false ln true true due false 0 0 3000000 i n =
      kx 2 [.li ms, .i n, .i 1000000, .i n, .i 0, .i 0, .b false, .i (100 + n - 1), .b true, .b true, .i due, .b false, .i 0, .i 0, .i 3000000] := by
  intro k
  induction k with
  | zero =>
    intro f i ln due hf hk hi hl α kx kr
    obtain ⟨f, rfl⟩ : ∃ f', f = f' + 1 := ⟨f - 1, by omega⟩
    simp only [WinMarks_10_L, WinMarks_10_B, chk_len, chk_T]
    rw [br_neg (by omega), hl, show i = n by omega]
  | succ k ih =>
    intro f i ln due hf hk hi hl α kx kr
    obtain ⟨f, rfl⟩ : ∃ f', f = f' + 1 := ⟨f - 1, by omega⟩
    have e1 : addI .i64 100 i = 100 + i := addI_i (by unfold I63; omega)
    have e2 : wrapI .u64 (100 + i) = 100 + i := by rw [wrapI_u]; omega
    have e3 : addI .i64 i 1 = i + 1 := addI_i (by unfold I63; omega)
    simp only [WinMarks_10_L, WinMarks_10_B, one_ev, e1, e2]
    rw [br_pos (by omega), sent_go1 (by omega) (by omega) (by omega), sqI_id (by omega) (by omega)]
    simp only [out_ev, un_i_ev, un_b_ev, un_nil_ev, e3, chk_len, chk_T]
    exact ih f (i + 1) _ due (by omega) (by omega) (by omega) (by omega) kx kr
theorem marks15 {n s was : Int} {ms : List Int} (hn : 6 ≤ n) (hn1 : n ≤ 40) (hs : 3 ≤ s) (hs1 : s ≤ 40) : ∀ (k f : Nat) (c cnt p due i : Int) (runs : Bool), k < f → i + k = min (ms.length : Int) 5 → 1 ≤ i → s ≤ c → c ≤ 40 + i → 0 ≤ cnt → cnt < c → 0 ≤ p → p ≤ 40 →
    ∀ {α : Type} (kx : Nat → List Leaf → Option α) (kr : List Leaf → Option α), WinMarks_15_L kx kr f ms c s p cnt (100 + n - 1) true (100 + n - 1) true runs due false 0 0 3000000 i was = kx 4 [.li ms] := by
  intro k
  induction k with
  | zero =>
    intro f c cnt p due i runs hf hk hi hc hc1 hk0 hk1 hp hp1 α kx kr
    obtain ⟨f, rfl⟩ : ∃ f', f = f' + 1 := ⟨f - 1, by omega⟩
    simp only [WinMarks_15_L, WinMarks_15_B, one_ev]
    by_cases hl : i < Int.ofNat ms.length
    · rw [br_pos hl, br_neg (by simp at hl; omega)]
    · rw [br_neg hl]
  | succ k ih =>
    intro f c cnt p due i runs hf hk hi hc hc1 hk0 hk1 hp hp1 α kx kr
    obtain ⟨f, rfl⟩ : ∃ f', f = f' + 1 := ⟨f - 1, by omega⟩
    have hl : i < Int.ofNat ms.length := by simp; omega
    have e1 : addI .i64 100 i = 100 + i := addI_i (by unfold I63; omega)
    have e2 : wrapI .u64 (100 + i) = 100 + i := by rw [wrapI_u]; omega
    have e3 : addI .i64 i 1 = i + 1 := addI_i (by unfold I63; omega)
    have e4 : addI .i64 c 1 = c + 1 := addI_i (by unfold I63; omega)
    simp only [WinMarks_15_L, WinMarks_15_B, one_ev, win_Cwnd, out_ev, un_i_ev, un_nil_ev, e1, e2, e3, e4, chk_len, chk_T]
    rw [br_pos hl, br_pos (by omega)]
    refine (chk_b' rfl).trans ?_
    rw [mark_keeps hp (by omega) (by omega) (by omega) (by omega) (by omega) (grow_avoid hc (by omega) (by omega) hk0 hk1) (less_ge (by omega) (by omega) (by omega))]
    simp only [out_ev, un_i_ev, un_b_ev, un_nil_ev]
    rw [br_ne (by omega), br_pos (by omega)]
    by_cases hg : cnt + 1 ≥ c
    · rw [if_pos hg, if_pos hg, br_neg (by omega), br_neg (by omega)]
      exact ih f _ _ _ _ (i + 1) _ (by omega) (by omega) (by omega) (by omega) (by omega) (by omega) (by omega) (by omega) (by omega) kx kr
    · rw [if_neg hg, if_neg hg, br_neg (by omega), br_neg (by omega)]
      exact ih f _ _ _ _ (i + 1) _ (by omega) (by omega) (by omega) (by omega) (by omega) (by omega) (by omega) (by omega) (by omega) kx kr
theorem WinMarks_true (ms : List Int) (n : Int) : WinMarks ms n = some [.b true] := by
  obtain ⟨N, hN0, hN1, eN⟩ := rem_N (m := 30) (by decide) (by decide) n
  obtain ⟨m, hm⟩ : ∃ m, m = 6 + N := ⟨_, rfl⟩
  have e1 : addI .i64 6 N = m := by rw [addI_i (show I63 (6 + N) by unfold I63; omega), hm]
  have e2 : addI .i64 m 1 = m + 1 := addI_i (by unfold I63; omega)
  have q1 : quoI .i64 (m + 1) 2 = (m + 1) / 2 := quoI_n (by omega) (by omega) (by omega)
  obtain ⟨t, ht⟩ : ∃ t, top = t + 1 := ⟨top - 1, by unfold top; omega⟩
  have ht1 : 1000 < t := by unfold top at ht; omega
  unfold WinMarks WinMarks_d
  simp only [one_ev, eN, e1, new_win, out_ev, un_i_ev, un_b_ev, un_nil_ev, chk_len, chk_T]
  rw [marks6 (by omega) (m - 3).toNat top 3 (by omega) (by omega) (by omega)]
  simp only [beq00, br_t, un_li_ev, un_i_ev, un_b_ev, un_nil_ev, chk_len, chk_T]
  -- the first that goes
  rw [ht]
  rw [show ∀ {α : Type} (kx : Nat → List Leaf → Option α) (kr : List Leaf → Option α), WinMarks_10_L kx kr (t + 1) ms m 1000000 0 0 0 false 0 false false 0 false 0 0 3000000 0 m =
      kx 2 [.li ms, .i m, .i 1000000, .i m, .i 0, .i 0, .b false, .i (100 + m - 1), .b true, .b true, .i (0 + 3000000), .b false, .i 0, .i 0, .i 3000000] from fun kx kr => by
    simp only [WinMarks_10_L, WinMarks_10_B, one_ev, show wrapI .u64 (addI .i64 100 0) = 100 by decide]
    rw [br_pos (by omega), sent_go0 (by omega) (by omega) (by omega) (by omega) (by omega) (by omega) (by omega)]
    simp only [out_ev, un_i_ev, un_b_ev, un_nil_ev, chk_len, chk_T, show addI .i64 0 1 = 1 by decide, show (0 : Int) + 1 = 1 by decide]
    exact marks10 (by omega) (m - 1).toNat t 1 _ _ (by omega) (by omega) (by omega) (by rw [sqI_id (by omega) (by omega)]; omega) kx kr]
  simp only [show Nat.beq 2 2 = true by rfl, br_t, un_li_ev, un_i_ev, un_b_ev, un_nil_ev, win_Cwnd, out_ev, chk_len, chk_T]
  have fin : ∀ {α : Type} (kx : Nat → List Leaf → Option α) (kr : List Leaf → Option α), WinMarks_15_L kx kr (t + 1) ms m 1000000 m 0 0 false (100 + m - 1) true true (0 + 3000000) false 0 0 3000000 0 m = kx 4 [.li ms] := by
    intro α kx kr
    simp only [WinMarks_15_L, WinMarks_15_B, one_ev, win_Cwnd, out_ev, un_i_ev, un_nil_ev, chk_len, chk_T, show wrapI .u64 (addI .i64 100 0) = 100 by decide, show addI .i64 0 1 = 1 by decide, e2, q1]
    by_cases hl : (0 : Int) < Int.ofNat ms.length
    · rw [br_pos hl, br_pos (by omega)]
      refine (chk_b' rfl).trans ?_
      rw [mark_halves (by omega) (by omega) (by omega) (by omega) (by omega) (by omega) (grow_slow (by omega) (by omega) (by omega) (by omega) (by omega)) (by omega) (by omega) (.inl rfl)]
      simp only [out_ev, un_i_ev, un_b_ev, un_nil_ev, beq_self_eq_true, br_t]
      rw [show max ((m + 1) / 2) 1 = (m + 1) / 2 by omega, bne_self_eq_false, br_f, br_neg (by omega)]
      exact marks15 (by omega) (by omega) (by omega) (by omega) (min (ms.length : Int) 5 - 1).toNat t _ 0 _ _ _ _ (by omega) (by simp at hl; simp; omega) (by decide) (by omega) (by omega) (by omega) (by omega) (by omega) (by omega) kx kr
    · rw [br_neg hl]
  rw [fin]
  simp only [show Nat.beq 4 4 = true by rfl, br_t, un_li_ev, un_nil_ev]
end Go.Sx.T

