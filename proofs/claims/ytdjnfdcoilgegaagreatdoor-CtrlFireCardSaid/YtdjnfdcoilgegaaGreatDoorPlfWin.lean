import Derived.Test.YtdjnfdcoilgegaaGreatDoorYfRttSpec
import Derived.Test.YtdjnfdcoilgegaaGreatDoorPlA
import Derived.Test.YtdjnfdcoilgegaaGreatDoorYfWinSpec
set_option linter.all false
namespace Go.Sx.T
open Go Go.Sx
def sqI (n : Int) : Int := andI .u64 n 281474976710655
theorem sent_go0 {cwnd slow pipe count hn ln due sm sp rto n now : Int} {hi li a : Bool} (h : pipe < cwnd) (hp : 0 ≤ pipe) (hc : cwnd < 1000000000) (hr : 0 ≤ rto) (hr1 : rto ≤ 64000000) (hn0 : 0 ≤ now) (hn1 : now ≤ 4611686018427387904) :
    win_Sent cwnd slow pipe count hn hi ln li false due a sm sp rto n now = some [.i cwnd, .i slow, .i (pipe + 1), .i count, .i hn, .b hi, .i (sqI n), .b true, .b true, .i (now + rto), .b a, .i sm, .i sp, .i rto, .b true] := by
  have e1 : addI .i64 pipe 1 = pipe + 1 := addI_i (by unfold I63; omega)
  have e2 : addI .i64 now rto = now + rto := addI_i (by unfold I63; omega)
  unfold win_Sent
  simp only [win_May, decide_eq_true h, out_ev, un_b_ev, un_nil_ev, Bool.not_true, Bool.not_false, br_f, br_t, one_ev, e1, seq_Of, un_i_ev, win_runsTo, minI_eq, show min now 4611686018427387904 = now by omega, rtt_Rto, e2]
  rfl
theorem sent_go1 {cwnd slow pipe count hn ln due sm sp rto n now : Int} {hi li a : Bool} (h : pipe < cwnd) (hp : 0 ≤ pipe) (hc : cwnd < 1000000000) :
    win_Sent cwnd slow pipe count hn hi ln li true due a sm sp rto n now = some [.i cwnd, .i slow, .i (pipe + 1), .i count, .i hn, .b hi, .i (sqI n), .b true, .b true, .i due, .b a, .i sm, .i sp, .i rto, .b true] := by
  have e1 : addI .i64 pipe 1 = pipe + 1 := addI_i (by unfold I63; omega)
  unfold win_Sent
  simp only [win_May, decide_eq_true h, out_ev, un_b_ev, un_nil_ev, Bool.not_true, br_f, one_ev, e1, seq_Of, un_i_ev]
  rfl
theorem sent_no {cwnd slow pipe count hn ln due sm sp rto n now : Int} {hi li a runs : Bool} (h : ¬ pipe < cwnd) :
    win_Sent cwnd slow pipe count hn hi ln li runs due a sm sp rto n now = some [.i cwnd, .i slow, .i pipe, .i count, .i hn, .b hi, .i ln, .b li, .b runs, .i due, .b a, .i sm, .i sp, .i rto, .b false] := by
  unfold win_Sent
  simp only [win_May, decide_eq_false h, out_ev, un_b_ev, un_nil_ev, Bool.not_false, br_t]
theorem fire_no {cwnd slow pipe count hn ln due sm sp rto now : Int} {hi li a : Bool} (h : min now 4611686018427387904 < due) :
    win_Fire cwnd slow pipe count hn hi ln li true due a sm sp rto now = some [.i cwnd, .i slow, .i pipe, .i count, .i hn, .b hi, .i ln, .b li, .b true, .i due, .b a, .i sm, .i sp, .i rto, .b false] := by
  unfold win_Fire
  simp only [Bool.not_true, br_f, one_ev, minI_eq]
  rw [br_pos h]
theorem fire_yes {cwnd slow pipe count hn ln due sm sp rto now : Int} {hi a : Bool} (h : ¬ min now 4611686018427387904 < due) (hc0 : 0 ≤ cwnd) (hc : cwnd < 1000000000) (hr : 0 ≤ rto) (hr1 : rto ≤ 64000000) :
    win_Fire cwnd slow pipe count hn hi ln true true due a sm sp rto now = some [.i 1, .i (max (cwnd / 2) 1), .i 0, .i 0, .i ln, .b true, .i ln, .b true, .b false, .i due, .b a, .i sm, .i sp, .i (min (2 * rto) 64000000), .b true] := by
  have e1 : quoI .i64 cwnd 2 = cwnd / 2 := quoI_n hc0 (by omega) (by omega)
  have e2 : mulI .i64 2 rto = 2 * rto := mulI_i (by unfold I63; omega)
  unfold win_Fire
  simp only [Bool.not_true, br_f, one_ev, minI_eq]
  rw [br_neg h]
  simp only [win_halve, one_ev, e1, maxI_eq, br_t, out_ev, un_b_ev, un_i_ev, un_nil_ev, rtt_Back, e2, minI_eq]
theorem new_win : win_New = some [.i 3, .i 1000000, .i 0, .i 0, .i 0, .b false, .i 0, .b false, .b false, .i 0, .b false, .i 0, .i 0, .i 3000000] := rfl
end Go.Sx.T

