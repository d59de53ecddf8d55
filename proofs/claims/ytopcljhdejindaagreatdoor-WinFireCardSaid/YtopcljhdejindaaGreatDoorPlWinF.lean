import Derived.Test.YtopcljhdejindaaGreatDoorPlWin
import Derived.Test.YtopcljhdejindaaGreatDoorYWFSpec
set_option linter.all false
namespace Go.Sx.T
open Go Go.Sx
theorem chk_b {α : Type} {b : Bool} (h : b = true) {x : Option α} : chk b x = x := by rw [h]; exact chk_t x
theorem fire13 {n2 N : Int} (eN : remI .i64 (addI .i64 (remI .i64 n2 12) 12) 12 = N) (hN0 : 0 ≤ N) (hN1 : N < 12) :
    ∀ (k f : Nat) (cwnd slow count hn ln due sm sp t i now : Int) (hi li a : Bool), k < f → i + k = 1 + N → 0 ≤ i → 1 ≤ cwnd → cwnd < 1000000000 → 200000 ≤ t → t ≤ 64000000 → 0 ≤ now → now ≤ i * 64000000 →
      ∀ {α : Type} (kx : Nat → List Leaf → Option α) (kr : List Leaf → Option α), WinFire_13_L kx kr f cwnd slow 0 count hn hi ln li false due a sm sp t i t now n2 = kx 0 [] := by
  intro k
  induction k with
  | zero =>
    intro f cwnd slow count hn ln due sm sp t i now hi li a hf hk hi0 hc0 hc1 ht0 ht1 hn0 hn1 α kx kr
    obtain ⟨f, rfl⟩ : ∃ f', f = f' + 1 := ⟨f - 1, by omega⟩
    simp only [WinFire_13_L, WinFire_13_B, one_ev, eN]
    rw [br_neg (by rw [addI_i (by unfold I63; omega)]; omega)]
  | succ k ih =>
    intro f cwnd slow count hn ln due sm sp t i now hi li a hf hk hi0 hc0 hc1 ht0 ht1 hn0 hn1 α kx kr
    obtain ⟨f, rfl⟩ : ∃ f', f = f' + 1 := ⟨f - 1, by omega⟩
    have e1 : addI .i64 now t = now + t := addI_i (by unfold I63; omega)
    have e2 : subI .i64 (now + t) 1 = now + t - 1 := subI_i (by unfold I63; omega)
    have e3 : mulI .i64 2 t = 2 * t := mulI_i (by unfold I63; omega)
    have e4 : addI .i64 i 1 = i + 1 := addI_i (by unfold I63; omega)
    simp only [WinFire_13_L, WinFire_13_B, one_ev, eN]
    rw [br_pos (by rw [addI_i (by unfold I63; omega)]; omega), sent_go0 (by omega) (by omega) hc1 (by omega) ht1 hn0 (by omega)]
    simp only [out_ev, un_i_ev, un_b_ev, un_nil_ev, Bool.not_true, br_f, win_Due, e1, e2, bne_self_eq_false]
    rw [fire_no (by omega)]
    simp only [out_ev, un_i_ev, un_b_ev, un_nil_ev, br_f]
    rw [fire_yes (by omega) (by omega) hc1 (by omega) ht1]
    simp only [out_ev, un_i_ev, un_b_ev, un_nil_ev, Bool.not_true, br_f, win_Cwnd, win_Pipe, bne_self_eq_false, e3, e4, minI_eq]
    exact ih f 1 _ 0 _ _ _ _ _ (min (2 * t) 64000000) (i + 1) (now + t) true true a (by omega) (by omega) (by omega) (by omega) (by omega) (by omega) (by omega) (by omega) (by omega) kx kr
theorem WinFire_true (n2 d : Int) : WinFire n2 d = some [.b true] := by
  obtain ⟨N, hN0, hN1, eN⟩ := rem_N (m := 12) (by decide) (by decide) n2
  obtain ⟨D, hD⟩ : ∃ D, D = max 0 (min d 1099511627776) := ⟨_, rfl⟩
  have hb := rto_bounds (clD D) (clD D / 2)
  unfold WinFire WinFire_d
  simp only [new_win, out_ev, un_i_ev, un_b_ev, un_nil_ev, one_ev, maxI_eq, minI_eq, ← hD]
  rw [sent_go0 (by omega) (by omega) (by omega) (by omega) (by omega) (by omega) (by omega)]
  simp only [out_ev, un_i_ev, un_b_ev, un_nil_ev]
  refine (chk_b rfl).trans ?_
  rw [
    show (0 : Int) + 1 = 1 by omega, hear_samp (by omega) (rtt_Sample_first 0 0 3000000 D) (grow_slow (by omega) (by omega) (by omega) (by omega) (by omega))]
  simp only [out_ev, un_i_ev, un_b_ev, un_nil_ev, rtt_New, rtt_Sample_first, rtt_Rto]
  rw [fire13 eN hN0 hN1 (1 + N).toNat top _ _ _ _ _ _ _ _ _ 0 0 false true true (by unfold top; omega) (by omega) (by omega) (by omega) (by omega) hb.1 hb.2 (by omega) (by omega)]
  simp only [beq00, br_t, un_nil_ev]
end Go.Sx.T

