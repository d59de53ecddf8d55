import Derived.Test.YtopcljhdejindaaGreatDoorPlWin
import Derived.Test.YtopcljhdejindaaGreatDoorPlLess
set_option linter.all false
namespace Go.Sx.T
open Go Go.Sx
theorem chk_b' {α : Type} {b : Bool} (h : b = true) {x : Option α} : chk b x = x := by rw [h]; exact chk_t x
theorem sqI_id {n : Int} (h0 : 0 ≤ n) (h : n < 281474976710656) : sqI n = n := by
  unfold sqI
  rw [andI_mask (by unfold U; omega) 48 (by decide) _ (by decide)]; omega
/-- With nothing on its way. -/
theorem hear_got0 {g cwnd slow count hn ln due sm sp rto now c' k' : Int} {hi li a runs : Bool} (hr : 0 ≤ rto) (hr1 : rto ≤ 64000000) (hn0 : 0 ≤ now) (hn1 : now ≤ 4611686018427387904)
    (hg : win_grow cwnd slow 0 count hn hi ln li runs due a sm sp rto 1 = some [.i c', .i slow, .i 0, .i k', .i hn, .b hi, .i ln, .b li, .b runs, .i due, .b a, .i sm, .i sp, .i rto]) :
    win_Hear [g] [] [] cwnd slow 0 count hn hi ln li runs due a sm sp rto 0 (-1) now = some [.i c', .i slow, .i 0, .i k', .i hn, .b hi, .i ln, .b li, .b false, .i due, .b a, .i sm, .i sp, .i rto] := by
  have := hear_got (g := g) (pipe := 0) (now := now) (by omega) (by omega) hr hr1 hn0 hn1 (show win_grow cwnd slow (max (0 - 1) 0) count hn hi ln li runs due a sm sp rto 1 = some [.i c', .i slow, .i (max (0 - 1) 0), .i k', .i hn, .b hi, .i ln, .b li, .b runs, .i due, .b a, .i sm, .i sp, .i rto] from hg)
  rw [this]
  rfl
end Go.Sx.T

