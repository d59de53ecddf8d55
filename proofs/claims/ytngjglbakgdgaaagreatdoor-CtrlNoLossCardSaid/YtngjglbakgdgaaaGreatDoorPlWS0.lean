import Derived.Test.YtngjglbakgdgaaaGreatDoorPlWinS
set_option linter.all false
namespace Go.Sx.T
open Go Go.Sx
/-- The samples so far. -/
def SA (a : Bool) (sm sp rto : Int) : Prop := (a = false ∧ rto = 3000000) ∨ (a = true ∧ RS sm sp rto)
theorem SA.rto {a : Bool} {sm sp rto : Int} (h : SA a sm sp rto) : 0 ≤ rto ∧ rto ≤ 64000000 := by
  rcases h with ⟨_, rfl⟩ | ⟨_, h⟩
  · omega
  · have := rto_bounds sm sp
    rw [h.t]; omega
theorem SA.samp {a : Bool} {sm sp rto : Int} (h : SA a sm sp rto) (d : Int) : ∃ sm' sp' rto', rtt_Sample a sm sp rto d = some [.b true, .i sm', .i sp', .i rto'] ∧ SA true sm' sp' rto' := by
  rcases h with ⟨rfl, rfl⟩ | ⟨rfl, h⟩
  · exact ⟨_, _, _, rtt_Sample_first _ _ _ d, .inr ⟨rfl, RS.first d⟩⟩
  · exact ⟨_, _, _, rtt_Sample_t d h.s0 h.s1 h.p0 h.p1, .inr ⟨rfl, h.next d⟩⟩
theorem grow_n {k cwnd pipe hn ln due sm sp rto : Int} {hi li a runs : Bool} (hk : 0 ≤ k) (hk1 : k ≤ 100) (h0 : 1 ≤ cwnd) (hs : cwnd ≤ 1000) :
    win_grow cwnd 1000000 pipe 0 hn hi ln li runs due a sm sp rto k = some [.i (cwnd + k), .i 1000000, .i pipe, .i 0, .i hn, .b hi, .i ln, .b li, .b runs, .i due, .b a, .i sm, .i sp, .i rto] := by
  have e1 : subI .i64 1000000 cwnd = 1000000 - cwnd := subI_i (by unfold I63; omega)
  have e2 : addI .i64 cwnd k = cwnd + k := addI_i (by unfold I63; omega)
  have e3 : subI .i64 k k = 0 := by rw [subI_i (by unfold I63; omega)]; omega
  have e4 : addI .i64 0 0 = 0 := by decide
  unfold win_grow win_grow_d
  rw [br_pos (by omega)]
  simp only [one_ev, e1, minI_eq, show min k (1000000 - cwnd) = k by omega, e2, e3, e4]
  obtain ⟨n, ht⟩ : ∃ n, top = n + 1 := ⟨top - 1, by unfold top; omega⟩
  rw [ht]
  simp only [win_grow_5_L, win_grow_5_B]
  rw [br_neg (by omega)]
  simp only [beq00, br_t, un_i_ev, un_b_ev, un_nil_ev]
end Go.Sx.T

