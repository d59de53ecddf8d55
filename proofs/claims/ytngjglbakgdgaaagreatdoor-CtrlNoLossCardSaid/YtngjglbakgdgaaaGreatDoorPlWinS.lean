import Derived.Test.YtngjglbakgdgaaaGreatDoorPlRt
import Derived.Test.YtngjglbakgdgaaaGreatDoorYnWinSpec
set_option linter.all false
namespace Go.Sx.T
open Go Go.Sx
def sqI (n : Int) : Int := andI .u64 n 281474976710655
theorem sent_go0 {cwnd slow pipe count hn ln due sm sp rto n now : Int} {hi li a : Bool} (h : pipe < cwnd) (hp : 0 ≤ pipe) (hc : cwnd < 1000000000) (hr : 0 ≤ rto) (hr1 : rto ≤ 64000000) (hn0 : 0 ≤ now) (hn1 : now ≤ 4611686018427387904) :
    win_Sent cwnd slow pipe count hn hi ln li false due a sm sp rto n now = some [.i cwnd, .i slow, .i (pipe + 1), .i count, .i hn, .b hi, .i (sqI n), .b true, .b true, .i (now + rto), .b a, .i sm, .i sp, .i rto, .b true] := by
  have e1 : addI .i64 pipe 1 = pipe + 1 := addI_i (by unfold I63; omega)
  have e2 : addI .i64 now rto = now + rto := addI_i (by unfold I63; omega)
  unfold win_Sent
  simp only [win_May, decide_eq_true h, out_ev, un_b_ev, un_nil_ev, Bool.not_true, Bool.not_false, br_f, br_t, one_ev, e1, seq_Of, un_i_ev, win_runsTo, minI_eq, show min now 4611686018427387904 = now by omega, rtt_Rto, e2]
  rfl
theorem sent_go1 {cwnd slow pipe count hn ln due sm sp rto n now : Int} {hi li a : Bool} (h : pipe < cwnd) (hp : 0 ≤ pipe) (hc : cwnd < 1000000000) :
    win_Sent cwnd slow pipe count hn hi ln li true due a sm sp rto n now = some [.i cwnd, .i slow, .i (pipe + 1), .i count, .i hn, .b hi, .i (sqI n), .b true, .b true, .i due, .b a, .i sm, .i sp, .i rto, .b true] := by
  have e1 : addI .i64 pipe 1 = pipe + 1 := addI_i (by unfold I63; omega)
  unfold win_Sent
  simp only [win_May, decide_eq_true h, out_ev, un_b_ev, un_nil_ev, Bool.not_true, br_f, one_ev, e1, seq_Of, un_i_ev]
  rfl
theorem sent_no {cwnd slow pipe count hn ln due sm sp rto n now : Int} {hi li a runs : Bool} (h : ¬ pipe < cwnd) :
    win_Sent cwnd slow pipe count hn hi ln li runs due a sm sp rto n now = some [.i cwnd, .i slow, .i pipe, .i count, .i hn, .b hi, .i ln, .b li, .b runs, .i due, .b a, .i sm, .i sp, .i rto, .b false] := by
  unfold win_Sent
  simp only [win_May, decide_eq_false h, out_ev, un_b_ev, un_nil_ev, Bool.not_false, br_t]
theorem new_win : win_New = some [.i 3, .i 1000000, .i 0, .i 0, .i 0, .b false, .i 0, .b false, .b false, .i 0, .b false, .i 0, .i 0, .i 3000000] := rfl
theorem len1 (g : Int) : Int.ofNat (List.length [g]) = 1 := rfl
theorem len0 : Int.ofNat (List.length ([] : List Int)) = 0 := rfl
end Go.Sx.T

