import Derived.Test.YtopcljhdejindaaGreatDoorPlWinX
import Derived.Test.YtopcljhdejindaaGreatDoorYWHSpec
set_option linter.all false
namespace Go.Sx.T
open Go Go.Sx
theorem half7 {n : Int} {ls : List Int} (hn : n ≤ 50) : ∀ (k f : Nat) (c i : Int), k < f → c + k = n → 3 ≤ c → 0 ≤ i → i ≤ c →
    ∀ {α : Type} (kx : Nat → List Leaf → Option α) (kr : List Leaf → Option α), WinHalf_7_L kx kr f ls c 1000000 0 0 0 false 0 false false 0 false 0 0 3000000 i n =
      kx 0 [.li ls, .i n, .i 1000000, .i 0, .i 0, .i 0, .b false, .i 0, .b false, .b false, .i 0, .b false, .i 0, .i 0, .i 3000000, .i n] := by
  intro k
  induction k with
  | zero =>
    intro f c i hf hk hc hi hi1 α kx kr
    obtain ⟨f, rfl⟩ : ∃ f', f = f' + 1 := ⟨f - 1, by omega⟩
    simp only [WinHalf_7_L, WinHalf_7_B, win_Cwnd, out_ev, un_i_ev, un_nil_ev, chk_len, chk_T]
    rw [br_neg (by omega), show c = n by omega]
  | succ k ih =>
    intro f c i hf hk hc hi hi1 α kx kr
    obtain ⟨f, rfl⟩ : ∃ f', f = f' + 1 := ⟨f - 1, by omega⟩
    have e3 : addI .i64 i 1 = i + 1 := addI_i (by unfold I63; omega)
    simp only [WinHalf_7_L, WinHalf_7_B, win_Cwnd, out_ev, un_i_ev, un_nil_ev, chk_len, chk_T, one_ev, e3]
    rw [br_pos (by omega)]
    refine (chk_b' rfl).trans ?_
    rw [show remI .i64 (addI .i64 (remI .i64 0 3) 3) 3 = 0 by decide, show maxI (-1) (minI (-1) 1099511627776) = -1 by decide, hear_got0 (by omega) (by omega) (by omega) (by omega) (grow_slow (by omega) (by omega) (by omega) (by omega) (by omega))]
    simp only [out_ev, un_i_ev, un_b_ev, un_nil_ev]
    exact ih f (c + 1) (i + 1) (by omega) (by omega) (by omega) (by omega) (by omega) kx kr
theorem half13 {n : Int} {ls : List Int} (hn : n ≤ 50) : ∀ (k f : Nat) (i ln due : Int), k < f → i + k = n → 1 ≤ i → ln = 1000 + i - 1 →
    ∀ {α : Type} (kx : Nat → List Leaf → Option α) (kr : List Leaf → Option α), WinHalf_13_L kx kr f ls n 1000000 i 0 0 false ln true true due false 0 0 3000000 i 1000 n =
      kx 2 [.li ls, .i n, .i 1000000, .i n, .i 0, .i 0, .b false, .i (1000 + n - 1), .b true, .b true, .i due, .b false, .i 0, .i 0, .i 3000000, .i n, .i 1000] := by
  intro k
  induction k with
  | zero =>
    intro f i ln due hf hk hi hl α kx kr
    obtain ⟨f, rfl⟩ : ∃ f', f = f' + 1 := ⟨f - 1, by omega⟩
    simp only [WinHalf_13_L, WinHalf_13_B, chk_len, chk_T]
    rw [br_neg (by omega), hl, show i = n by omega]
  | succ k ih =>
    intro f i ln due hf hk hi hl α kx kr
    obtain ⟨f, rfl⟩ : ∃ f', f = f' + 1 := ⟨f - 1, by omega⟩
    have e1 : wrapI .u64 i = i := by rw [wrapI_u]; omega
    have e2 : addI .u64 1000 i = 1000 + i := by rw [addI_u]; omega
    have e3 : addI .i64 i 1 = i + 1 := addI_i (by unfold I63; omega)
    simp only [WinHalf_13_L, WinHalf_13_B, one_ev, e1, e2]
    rw [br_pos (by omega), sent_go1 (by omega) (by omega) (by omega), sqI_id (by omega) (by omega)]
    simp only [out_ev, un_i_ev, un_b_ev, un_nil_ev, Bool.not_true, br_f, e3, chk_len, chk_T]
    exact ih f (i + 1) _ due (by omega) (by omega) (by omega) (by omega) kx kr
/-- The number that is told lost. -/
theorem half_g {n x : Int} (hn : 4 ≤ n) (hn1 : n ≤ 50) : ∃ g, 1000 ≤ g ∧ g ≤ 1000 + n - 1 ∧ remI .u64 (addI .u64 1000 (wrapI .u64 (remI .i64 (addI .i64 (remI .i64 x n) n) n))) 281474976710656 = g := by
  obtain ⟨M, hM0, hM1, eM⟩ := rem_N (m := n) (by omega) (by omega) x
  refine ⟨1000 + M, by omega, by omega, ?_⟩
  rw [eM, wrapI_u, show M % 18446744073709551616 = M by omega, addI_u, show (1000 + M) % 18446744073709551616 = 1000 + M by omega, remI_u (by omega)]
  omega
theorem half19 {n : Int} {ls : List Int} (hn : 4 ≤ n) (hn1 : n ≤ 50) : ∀ (k f : Nat) (p due i : Int) (runs : Bool), k < f → i + k = min (ls.length : Int) 10 → 1 ≤ i → 0 ≤ p → p ≤ 50 →
    ∃ p' due' runs', 0 ≤ p' ∧ p' ≤ 50 ∧ ∀ {α : Type} (kx : Nat → List Leaf → Option α) (kr : List Leaf → Option α), WinHalf_19_L kx kr f ls (n / 2) (n / 2) p 0 (1000 + n - 1) true (1000 + n - 1) true runs due false 0 0 3000000 i n n 1000 =
      kx 4 [.li ls, .i (n / 2), .i (n / 2), .i p', .i 0, .i (1000 + n - 1), .b true, .i (1000 + n - 1), .b true, .b runs', .i due', .b false, .i 0, .i 0, .i 3000000, .i n, .i 1000] := by
  intro k
  induction k with
  | zero =>
    intro f p due i runs hf hk hi hp hp1
    obtain ⟨f, rfl⟩ : ∃ f', f = f' + 1 := ⟨f - 1, by omega⟩
    refine ⟨p, due, runs, hp, hp1, fun kx kr => ?_⟩
    simp only [WinHalf_19_L, WinHalf_19_B, one_ev, chk_len, chk_T]
    by_cases hl : i < Int.ofNat ls.length
    · rw [br_pos hl, br_neg (by simp at hl; omega)]
    · rw [br_neg hl]
  | succ k ih =>
    intro f p due i runs hf hk hi hp hp1
    obtain ⟨f, rfl⟩ : ∃ f', f = f' + 1 := ⟨f - 1, by omega⟩
    have hl : i < Int.ofNat ls.length := by simp; omega
    have e3 : addI .i64 i 1 = i + 1 := addI_i (by unfold I63; omega)
    have q1 : quoI .i64 n 2 = n / 2 := quoI_n (by omega) (by omega) (by omega)
    obtain ⟨g, g0, g1, eg⟩ := half_g (x := ls.getD i.toNat 0) hn hn1
    obtain ⟨p', due', runs', hp', hp1', e⟩ := ih f (max (p - 1) 0) (if max (p - 1) 0 > 0 then 0 + 3000000 else due) (i + 1) (decide (max (p - 1) 0 > 0)) (by omega) (by omega) (by omega) (by omega) (by omega)
    refine ⟨p', due', runs', hp', hp1', fun kx kr => ?_⟩
    simp only [WinHalf_19_L, WinHalf_19_B, one_ev, chk_len, chk_T, eg, e3, q1]
    rw [br_pos hl, br_pos (by omega), chk_pos ⟨by omega, hl⟩, chk_pos ⟨by omega, hl⟩, chk_pos (by omega), chk_pos (by omega)]
    refine (chk_b' rfl).trans ?_
    rw [show remI .i64 (addI .i64 (remI .i64 0 3) 3) 3 = 0 by decide, show maxI (-1) (minI (-1) 1099511627776) = -1 by decide, lost_keeps hp (by omega) (by omega) (by omega) (by omega) (by omega) (less_ge (by omega) (by omega) (by omega))]
    simp only [out_ev, un_i_ev, un_b_ev, un_nil_ev, win_Cwnd, win_Slow, bne_self_eq_false, br_f]
    exact e kx kr
theorem half28 {n : Int} {ls : List Int} (hn : 4 ≤ n) (hn1 : n ≤ 50) : ∀ (k f : Nat) (p due : Int) (runs : Bool), k < f → p ≤ n / 2 - 1 + k → 0 ≤ p → p ≤ 50 →
    ∃ p' due' runs', 0 ≤ p' ∧ p' < n / 2 ∧ ∀ {α : Type} (kx : Nat → List Leaf → Option α) (kr : List Leaf → Option α), WinHalf_28_L kx kr f ls (n / 2) (n / 2) p 0 (1000 + n - 1) true (1000 + n - 1) true runs due false 0 0 3000000 1000 (n / 2) =
      kx 6 [.li ls, .i (n / 2), .i (n / 2), .i p', .i 0, .i (1000 + n - 1), .b true, .i (1000 + n - 1), .b true, .b runs', .i due', .b false, .i 0, .i 0, .i 3000000, .i (n / 2), .i 1000] := by
  intro k
  induction k with
  | zero =>
    intro f p due runs hf hk hp hp1
    obtain ⟨f, rfl⟩ : ∃ f', f = f' + 1 := ⟨f - 1, by omega⟩
    refine ⟨p, due, runs, hp, by omega, fun kx kr => ?_⟩
    simp only [WinHalf_28_L, WinHalf_28_B, win_May, out_ev, un_b_ev, un_nil_ev, chk_len, chk_T, decide_eq_true (show p < n / 2 by omega), Bool.not_true, br_f]
  | succ k ih =>
    intro f p due runs hf hk hp hp1
    obtain ⟨f, rfl⟩ : ∃ f', f = f' + 1 := ⟨f - 1, by omega⟩
    by_cases hlt : p < n / 2
    · refine ⟨p, due, runs, hp, hlt, fun kx kr => ?_⟩
      simp only [WinHalf_28_L, WinHalf_28_B, win_May, out_ev, un_b_ev, un_nil_ev, chk_len, chk_T, decide_eq_true hlt, Bool.not_true, br_f]
    · obtain ⟨p', due', runs', hp', hp1', e⟩ := ih f (max (p - 1) 0) (if max (p - 1) 0 > 0 then 0 + 3000000 else due) (decide (max (p - 1) 0 > 0)) (by omega) (by omega) (by omega) (by omega)
      refine ⟨p', due', runs', hp', hp1', fun kx kr => ?_⟩
      simp only [WinHalf_28_L, WinHalf_28_B, win_May, out_ev, un_b_ev, un_nil_ev, chk_len, chk_T, decide_eq_false hlt, Bool.not_false, br_t]
      refine (chk_b' rfl).trans ?_
      rw [show remI .u64 1000 281474976710656 = 1000 by decide, show remI .i64 (addI .i64 (remI .i64 0 3) 3) 3 = 0 by decide, show maxI (-1) (minI (-1) 1099511627776) = -1 by decide, lost_keeps hp (by omega) (by omega) (by omega) (by omega) (by omega) (less_ge (by omega) (by omega) (by omega))]
      simp only [out_ev, un_i_ev, un_b_ev, un_nil_ev]
      exact e kx kr
set_option maxRecDepth 100000 in
theorem WinHalf_true (ls : List Int) (n : Int) : WinHalf ls n = some [.b true] := by
  obtain ⟨N, hN0, hN1, eN⟩ := rem_N (m := 40) (by decide) (by decide) n
  obtain ⟨m, hm⟩ : ∃ m, m = 4 + N := ⟨_, rfl⟩
  have e1 : addI .i64 4 N = m := by rw [addI_i (show I63 (4 + N) by unfold I63; omega), hm]
  have q1 : quoI .i64 m 2 = m / 2 := quoI_n (by omega) (by omega) (by omega)
  have q2 : quoI .i64 (m / 2) 2 = m / 2 / 2 := quoI_n (by omega) (by omega) (by omega)
  obtain ⟨t, ht⟩ : ∃ t, top = t + 1 := ⟨top - 1, by unfold top; omega⟩
  have ht1 : 1000 < t := by unfold top at ht; omega
  unfold WinHalf WinHalf_d
  simp only [one_ev, eN, e1, new_win, out_ev, un_i_ev, un_b_ev, un_nil_ev, chk_len, chk_T]
  rw [half7 (by omega) (m - 3).toNat top 3 0 (by omega) (by omega) (by omega) (by omega) (by omega)]
  simp only [beq00, br_t, un_li_ev, un_i_ev, un_b_ev, un_nil_ev, chk_len, chk_T]
  rw [ht]
  rw [show ∀ {α : Type} (kx : Nat → List Leaf → Option α) (kr : List Leaf → Option α), WinHalf_13_L kx kr (t + 1) ls m 1000000 0 0 0 false 0 false false 0 false 0 0 3000000 0 1000 m =
      kx 2 [.li ls, .i m, .i 1000000, .i m, .i 0, .i 0, .b false, .i (1000 + m - 1), .b true, .b true, .i (0 + 3000000), .b false, .i 0, .i 0, .i 3000000, .i m, .i 1000] from fun kx kr => by
    simp only [WinHalf_13_L, WinHalf_13_B, one_ev, show addI .u64 1000 (wrapI .u64 0) = 1000 by decide]
    rw [br_pos (by omega), sent_go0 (by omega) (by omega) (by omega) (by omega) (by omega) (by omega) (by omega)]
    simp only [out_ev, un_i_ev, un_b_ev, un_nil_ev, Bool.not_true, br_f, chk_len, chk_T, show addI .i64 0 1 = 1 by decide, show (0 : Int) + 1 = 1 by decide]
    exact half13 (by omega) (m - 1).toNat t 1 _ _ (by omega) (by omega) (by omega) (by rw [sqI_id (by omega) (by omega)]; omega) kx kr]
  simp only [show Nat.beq 2 2 = true by rfl, br_t, un_li_ev, un_i_ev, un_b_ev, un_nil_ev, win_Cwnd, out_ev, chk_len, chk_T]
  by_cases hl : (0 : Int) < Int.ofNat ls.length
  · obtain ⟨g, g0, g1, eg⟩ := half_g (x := ls.getD (Int.toNat 0) 0) (show 4 ≤ m by omega) (by omega)
    obtain ⟨p', due', runs', hp', hp1', e19⟩ := half19 (ls := ls) (show 4 ≤ m by omega) (by omega) (min (ls.length : Int) 10 - 1).toNat t (max (m - 1) 0) (if max (m - 1) 0 > 0 then 0 + 3000000 else 0 + 3000000) 1 (decide (max (m - 1) 0 > 0)) (by omega) (by simp at hl; simp; omega) (by omega) (by omega) (by omega)
    obtain ⟨p2, due2, runs2, hp2, hp21, e28⟩ := half28 (ls := ls) (show 4 ≤ m by omega) (by omega) 60 (t + 1) p' due' runs' (by omega) (by omega) hp' hp1'
    have fin : ∀ {α : Type} (kx : Nat → List Leaf → Option α) (kr : List Leaf → Option α), WinHalf_19_L kx kr (t + 1) ls m 1000000 m 0 0 false (1000 + m - 1) true true (0 + 3000000) false 0 0 3000000 0 m m 1000 =
        kx 4 [.li ls, .i (m / 2), .i (m / 2), .i p', .i 0, .i (1000 + m - 1), .b true, .i (1000 + m - 1), .b true, .b runs', .i due', .b false, .i 0, .i 0, .i 3000000, .i m, .i 1000] := by
      intro α kx kr
      simp only [WinHalf_19_L, WinHalf_19_B, one_ev, chk_len, chk_T, eg, q1, show addI .i64 0 1 = 1 by decide]
      rw [br_pos hl, br_pos (by omega), chk_pos ⟨by omega, hl⟩, chk_pos ⟨by omega, hl⟩, chk_pos (by omega), chk_pos (by omega)]
      refine (chk_b' rfl).trans ?_
      rw [show remI .i64 (addI .i64 (remI .i64 0 3) 3) 3 = 0 by decide, show maxI (-1) (minI (-1) 1099511627776) = -1 by decide, lost_halves (by omega) (by omega) (by omega) (by omega) (by omega) (by omega) (by omega) (by omega) (.inl rfl)]
      simp only [out_ev, un_i_ev, un_b_ev, un_nil_ev, win_Cwnd, win_Slow, show max (m / 2) 1 = m / 2 by omega, bne_self_eq_false, br_f]
      exact e19 kx kr
    rw [fin]
    simp only [show Nat.beq 4 4 = true by rfl, br_t, un_li_ev, un_i_ev, un_b_ev, un_nil_ev, one_ev]
    rw [br_ne (by omega)]
    rw [e28]
    simp only [show Nat.beq 6 6 = true by rfl, br_t, un_li_ev, un_i_ev, un_b_ev, un_nil_ev, one_ev, show addI .u64 1000 500 = 1500 by decide]
    have last : ∀ (runs : Bool) (due : Int), ∃ d, win_Sent (m / 2) (m / 2) p2 0 (1000 + m - 1) true (1000 + m - 1) true runs due false 0 0 3000000 1500 0 = some [.i (m / 2), .i (m / 2), .i (p2 + 1), .i 0, .i (1000 + m - 1), .b true, .i 1500, .b true, .b true, .i d, .b false, .i 0, .i 0, .i 3000000, .b true] := by
      intro runs due
      cases runs with
      | false => exact ⟨_, by rw [sent_go0 (by omega) (by omega) (by omega) (by omega) (by omega) (by omega) (by omega), sqI_id (by omega) (by omega)]⟩
      | true => exact ⟨_, by rw [sent_go1 (by omega) (by omega) (by omega), sqI_id (by omega) (by omega)]⟩
    obtain ⟨d, ed⟩ := last runs2 due2
    rw [ed]
    simp only [out_ev, un_i_ev, un_b_ev, un_nil_ev]
    refine (chk_b' rfl).trans ?_
    rw [show remI .u64 1500 281474976710656 = 1500 by decide, show remI .i64 (addI .i64 (remI .i64 0 3) 3) 3 = 0 by decide, show maxI (-1) (minI (-1) 1099511627776) = -1 by decide,
      lost_halves (by omega) (by omega) (by omega) (by omega) (by omega) (by omega) (by omega) (by omega) (.inr (less_lt (by omega) (by omega) (by omega)))]
    simp only [out_ev, un_i_ev, un_b_ev, un_nil_ev, win_Cwnd, q2, maxI_eq, beq_self_eq_true]
  · have fin : ∀ {α : Type} (kx : Nat → List Leaf → Option α) (kr : List Leaf → Option α), WinHalf_19_L kx kr (t + 1) ls m 1000000 m 0 0 false (1000 + m - 1) true true (0 + 3000000) false 0 0 3000000 0 m m 1000 =
        kx 4 [.li ls, .i m, .i 1000000, .i m, .i 0, .i 0, .b false, .i (1000 + m - 1), .b true, .b true, .i (0 + 3000000), .b false, .i 0, .i 0, .i 3000000, .i m, .i 1000] := by
      intro α kx kr
      simp only [WinHalf_19_L, WinHalf_19_B, one_ev, chk_len, chk_T]
      rw [br_neg hl]
    rw [fin]
    simp only [show Nat.beq 4 4 = true by rfl, br_t, un_li_ev, un_i_ev, un_b_ev, un_nil_ev, one_ev]
    rw [br_eq (by have : 0 ≤ Int.ofNat ls.length := Int.natCast_nonneg _; omega)]
    simp only [beq_self_eq_true]
end Go.Sx.T

