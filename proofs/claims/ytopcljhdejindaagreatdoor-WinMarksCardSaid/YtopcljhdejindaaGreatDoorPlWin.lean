import Derived.Test.YtopcljhdejindaaGreatDoorPlRt
import Derived.Test.YtopcljhdejindaaGreatDoorYWinSpec
set_option linter.all false
namespace Go.Sx.T
open Go Go.Sx
def sqI (n : Int) : Int := andI .u64 n 281474976710655
theorem sent_go0 {cwnd slow pipe count hn ln due sm sp rto n now : Int} {hi li a : Bool} (h : pipe < cwnd) (hp : 0 ≤ pipe) (hc : cwnd < 1000000000) (hr : 0 ≤ rto) (hr1 : rto ≤ 64000000) (hn0 : 0 ≤ now) (hn1 : now ≤ 4611686018427387904) :
    win_Sent cwnd slow pipe count hn hi ln li false due a sm sp rto n now = some [.i cwnd, .i slow, .i (pipe + 1), .i count, .i hn, .b hi, .i (sqI n), .b true, .b true, .i (now + rto), .b a, .i sm, .i sp, .i rto, .b true] := by
  have e1 : addI .i64 pipe 1 = pipe + 1 := addI_i (by unfold I63; omega)
  have e2 : addI .i64 now rto = now + rto := addI_i (by unfold I63; omega)
  unfold win_Sent
  simp only [win_May, decide_eq_true h, out_ev, un_b_ev, un_nil_ev, Bool.not_true, Bool.not_false, br_f, br_t, one_ev, e1, seq_Of, un_i_ev, win_runsTo, minI_eq, show min now 4611686018427387904 = now by omega, rtt_Rto, e2]
  rfl
theorem sent_go1 {cwnd slow pipe count hn ln due sm sp rto n now : Int} {hi li a : Bool} (h : pipe < cwnd) (hp : 0 ≤ pipe) (hc : cwnd < 1000000000) :
    win_Sent cwnd slow pipe count hn hi ln li true due a sm sp rto n now = some [.i cwnd, .i slow, .i (pipe + 1), .i count, .i hn, .b hi, .i (sqI n), .b true, .b true, .i due, .b a, .i sm, .i sp, .i rto, .b true] := by
  have e1 : addI .i64 pipe 1 = pipe + 1 := addI_i (by unfold I63; omega)
  unfold win_Sent
  simp only [win_May, decide_eq_true h, out_ev, un_b_ev, un_nil_ev, Bool.not_true, br_f, one_ev, e1, seq_Of, un_i_ev]
  rfl
theorem sent_no {cwnd slow pipe count hn ln due sm sp rto n now : Int} {hi li a runs : Bool} (h : ¬ pipe < cwnd) :
    win_Sent cwnd slow pipe count hn hi ln li runs due a sm sp rto n now = some [.i cwnd, .i slow, .i pipe, .i count, .i hn, .b hi, .i ln, .b li, .b runs, .i due, .b a, .i sm, .i sp, .i rto, .b false] := by
  unfold win_Sent
  simp only [win_May, decide_eq_false h, out_ev, un_b_ev, un_nil_ev, Bool.not_false, br_t]
theorem fire_no {cwnd slow pipe count hn ln due sm sp rto now : Int} {hi li a : Bool} (h : min now 4611686018427387904 < due) :
    win_Fire cwnd slow pipe count hn hi ln li true due a sm sp rto now = some [.i cwnd, .i slow, .i pipe, .i count, .i hn, .b hi, .i ln, .b li, .b true, .i due, .b a, .i sm, .i sp, .i rto, .b false] := by
  unfold win_Fire
  simp only [Bool.not_true, br_f, one_ev, minI_eq]
  rw [br_pos h]
theorem fire_yes {cwnd slow pipe count hn ln due sm sp rto now : Int} {hi a : Bool} (h : ¬ min now 4611686018427387904 < due) (hc0 : 0 ≤ cwnd) (hc : cwnd < 1000000000) (hr : 0 ≤ rto) (hr1 : rto ≤ 64000000) :
    win_Fire cwnd slow pipe count hn hi ln true true due a sm sp rto now = some [.i 1, .i (max (cwnd / 2) 1), .i 0, .i 0, .i ln, .b true, .i ln, .b true, .b false, .i due, .b a, .i sm, .i sp, .i (min (2 * rto) 64000000), .b true] := by
  have e1 : quoI .i64 cwnd 2 = cwnd / 2 := quoI_n hc0 (by omega) (by omega)
  have e2 : mulI .i64 2 rto = 2 * rto := mulI_i (by unfold I63; omega)
  unfold win_Fire
  simp only [Bool.not_true, br_f, one_ev, minI_eq]
  rw [br_neg h]
  simp only [win_halve, one_ev, e1, maxI_eq, br_t, out_ev, un_b_ev, un_i_ev, un_nil_ev, rtt_Back, e2, minI_eq]
/-- One more that was got: ahead of any loss. -/
theorem grow_slow {cwnd slow pipe count hn ln due sm sp rto : Int} {hi li a runs : Bool} (h : cwnd < slow) (h0 : 0 ≤ cwnd) (hs : slow ≤ 1000000) (hc0 : 0 ≤ count) (hc : count ≤ cwnd) :
    win_grow cwnd slow pipe count hn hi ln li runs due a sm sp rto 1 = some [.i (cwnd + 1), .i slow, .i pipe, .i count, .i hn, .b hi, .i ln, .b li, .b runs, .i due, .b a, .i sm, .i sp, .i rto] := by
  have e1 : subI .i64 slow cwnd = slow - cwnd := subI_i (by unfold I63; omega)
  have e2 : addI .i64 cwnd 1 = cwnd + 1 := addI_i (by unfold I63; omega)
  have e3 : subI .i64 1 1 = 0 := by decide
  have e4 : addI .i64 count 0 = count := by rw [addI_i (by unfold I63; omega)]; omega
  unfold win_grow win_grow_d
  rw [br_pos h]
  simp only [one_ev, e1, minI_eq, show min 1 (slow - cwnd) = 1 by omega, e2, e3, e4]
  obtain ⟨n, ht⟩ : ∃ n, top = n + 1 := ⟨top - 1, by unfold top; omega⟩
  rw [ht]
  simp only [win_grow_5_L, win_grow_5_B]
  rw [br_neg (by omega)]
  simp only [beq00, br_t, un_i_ev, un_b_ev, un_nil_ev]
/-- .. behind one. -/
theorem grow_avoid {cwnd slow pipe count hn ln due sm sp rto : Int} {hi li a runs : Bool} (h : slow ≤ cwnd) (h0 : 1 ≤ cwnd) (hs : cwnd ≤ 1000000) (hc0 : 0 ≤ count) (hc : count < cwnd) :
    win_grow cwnd slow pipe count hn hi ln li runs due a sm sp rto 1 = some [.i (if count + 1 ≥ cwnd then cwnd + 1 else cwnd), .i slow, .i pipe, .i (if count + 1 ≥ cwnd then count + 1 - cwnd else count + 1), .i hn, .b hi, .i ln, .b li, .b runs, .i due, .b a, .i sm, .i sp, .i rto] := by
  have e2 : addI .i64 count 1 = count + 1 := addI_i (by unfold I63; omega)
  unfold win_grow win_grow_d
  rw [br_neg (by omega)]
  simp only [one_ev, e2]
  obtain ⟨n, ht⟩ : ∃ n, top = n + 1 + 1 := ⟨top - 2, by unfold top; omega⟩
  rw [ht]
  by_cases hg : count + 1 ≥ cwnd
  · have e3 : subI .i64 (count + 1) cwnd = count + 1 - cwnd := subI_i (by unfold I63; omega)
    have e4 : addI .i64 cwnd 1 = cwnd + 1 := addI_i (by unfold I63; omega)
    rw [if_pos hg, if_pos hg]
    simp only [win_grow_5_L, win_grow_5_B]
    rw [br_pos hg]
    simp only [one_ev, e3, e4]
    rw [br_neg (by omega)]
    simp only [beq00, br_t, un_i_ev, un_b_ev, un_nil_ev]
  · rw [if_neg hg, if_neg hg]
    simp only [win_grow_5_L, win_grow_5_B]
    rw [br_neg hg]
    simp only [beq00, br_t, un_i_ev, un_b_ev, un_nil_ev]
theorem new_win : win_New = some [.i 3, .i 1000000, .i 0, .i 0, .i 0, .b false, .i 0, .b false, .b false, .i 0, .b false, .i 0, .i 0, .i 3000000] := rfl
theorem len1 (g : Int) : Int.ofNat (List.length [g]) = 1 := rfl
theorem len0 : Int.ofNat (List.length ([] : List Int)) = 0 := rfl
theorem hear_got {g cwnd slow pipe count hn ln due sm sp rto now c' k' : Int} {hi li a runs : Bool} (hp : 0 ≤ pipe) (hp1 : pipe < 1000000000) (hr : 0 ≤ rto) (hr1 : rto ≤ 64000000) (hn0 : 0 ≤ now) (hn1 : now ≤ 4611686018427387904)
    (hg : win_grow cwnd slow (max (pipe - 1) 0) count hn hi ln li runs due a sm sp rto 1 = some [.i c', .i slow, .i (max (pipe - 1) 0), .i k', .i hn, .b hi, .i ln, .b li, .b runs, .i due, .b a, .i sm, .i sp, .i rto]) :
    win_Hear [g] [] [] cwnd slow pipe count hn hi ln li runs due a sm sp rto 0 (-1) now = some [.i c', .i slow, .i (max (pipe - 1) 0), .i k', .i hn, .b hi, .i ln, .b li, .b (decide (max (pipe - 1) 0 > 0)), .i (if max (pipe - 1) 0 > 0 then now + rto else due), .b a, .i sm, .i sp, .i rto] := by
  have e1 : subI .i64 pipe 1 = pipe - 1 := subI_i (by unfold I63; omega)
  have e2 : subI .i64 (pipe - 1) 0 = pipe - 1 := by rw [subI_i (by unfold I63; omega)]; omega
  have e3 : addI .i64 now rto = now + rto := addI_i (by unfold I63; omega)
  unfold win_Hear
  simp only [one_ev, len1, len0, e1, e2, maxI_eq]
  rw [br_neg (by omega), br_pos (by omega), hg]
  simp only [out_ev, un_i_ev, un_b_ev, un_nil_ev]
  rw [br_neg (by omega), br_neg (by omega)]
  by_cases h : max (pipe - 1) 0 > 0
  · rw [br_pos h, decide_eq_true h, if_pos h]
    simp only [win_runsTo, one_ev, minI_eq, show min now 4611686018427387904 = now by omega, rtt_Rto, out_ev, un_i_ev, un_b_ev, un_nil_ev, e3]
  · rw [br_neg h, decide_eq_false h, if_neg h]
theorem hear_samp {g cwnd slow count hn ln due sm sp rto now c' k' d sm' sp' rto' : Int} {hi li a runs : Bool} (hd : 0 ≤ d) (hs : rtt_Sample a sm sp rto d = some [.b true, .i sm', .i sp', .i rto'])
    (hg : win_grow cwnd slow 0 count hn hi ln li runs due true sm' sp' rto' 1 = some [.i c', .i slow, .i 0, .i k', .i hn, .b hi, .i ln, .b li, .b runs, .i due, .b true, .i sm', .i sp', .i rto']) :
    win_Hear [g] [] [] cwnd slow 1 count hn hi ln li runs due a sm sp rto 0 d now = some [.i c', .i slow, .i 0, .i k', .i hn, .b hi, .i ln, .b li, .b false, .i due, .b true, .i sm', .i sp', .i rto'] := by
  unfold win_Hear
  simp only [one_ev, len1, len0, show subI .i64 1 1 = 0 by decide, show subI .i64 0 0 = 0 by decide, show maxI 0 0 = 0 by decide]
  rw [br_pos hd, hs]
  simp only [out_ev, un_i_ev, un_b_ev, un_nil_ev]
  rw [br_pos (by omega), hg]
  simp only [out_ev, un_i_ev, un_b_ev, un_nil_ev]
  rw [br_neg (by omega), br_neg (by omega), br_neg (by omega)]
end Go.Sx.T
namespace Go.Sx.T
open Go Go.Sx
theorem halve_t {cwnd slow pipe count hn ln due sm sp rto : Int} {hi a runs : Bool} (hc0 : 0 ≤ cwnd) (hc : cwnd < 1000000000) :
    win_halve cwnd slow pipe count hn hi ln true runs due a sm sp rto = some [.i (max (cwnd / 2) 1), .i (max (cwnd / 2) 1), .i pipe, .i 0, .i ln, .b true, .i ln, .b true, .b runs, .i due, .b a, .i sm, .i sp, .i rto] := by
  have e1 : quoI .i64 cwnd 2 = cwnd / 2 := quoI_n hc0 (by omega) (by omega)
  unfold win_halve
  simp only [one_ev, e1, maxI_eq, br_t]
theorem where_lost (g m r : Int) : win_where [] [] [g] m r = some [.i g, .b true] := by kernel_rfl
theorem where_got (g m r : Int) : win_where [g] [] [] m r = some [.i g, .b true] := by kernel_rfl
theorem chk_w1 {α : Type} (x : Option α) (g : Int) : chk (decide (Int.ofNat (List.length ([] : List Int)) = Int.ofNat (List.length ([] : List Int))) && (decide (Int.ofNat (List.length ([] : List Int)) = Int.ofNat (List.length ([] : List Int))) && (decide (Int.ofNat (List.length [g]) = Int.ofNat (List.length [g])) && true)) && true) x = x := chk_t x
/-- A loss that halves. -/
theorem lost_halves {g cwnd slow pipe count hn ln due sm sp rto now : Int} {hi a runs : Bool} (hp : 0 ≤ pipe) (hp1 : pipe < 1000000000) (hc0 : 0 ≤ cwnd) (hc : cwnd < 1000000000) (hr : 0 ≤ rto) (hr1 : rto ≤ 64000000) (hn0 : 0 ≤ now) (hn1 : now ≤ 4611686018427387904)
    (hh : hi = false ∨ seq_Less hn g = some [.b true]) :
    win_Hear [] [] [g] cwnd slow pipe count hn hi ln true runs due a sm sp rto 0 (-1) now = some [.i (max (cwnd / 2) 1), .i (max (cwnd / 2) 1), .i (max (pipe - 1) 0), .i 0, .i ln, .b true, .i ln, .b true, .b (decide (max (pipe - 1) 0 > 0)), .i (if max (pipe - 1) 0 > 0 then now + rto else due), .b a, .i sm, .i sp, .i rto] := by
  have e1 : subI .i64 pipe 0 = pipe := by rw [subI_i (by unfold I63; omega)]; omega
  have e2 : subI .i64 pipe 1 = pipe - 1 := subI_i (by unfold I63; omega)
  have e3 : addI .i64 now rto = now + rto := addI_i (by unfold I63; omega)
  unfold win_Hear
  simp only [one_ev, len1, len0, e1, e2, maxI_eq]
  rw [br_neg (by omega), br_neg (by omega), br_pos (by omega)]
  simp only [decide_true, Bool.and_self, chk_t, where_lost, out_ev, un_i_ev, un_b_ev, un_nil_ev, br_t]
  have stop : ∀ {x y : Option (List Leaf)}, br (!hi) x (out (seq_Less hn g) fun r => un_b r fun b r => un_nil r (br b x y)) = x := by
    intro x y
    cases hi with
    | false => rfl
    | true =>
      rcases hh with hh | hh
      · cases hh
      · rw [hh]; rfl
  by_cases h : max (pipe - 1) 0 > 0
  · simp only [br_pos h, decide_eq_true h, if_pos h, halve_t hc0 hc, out_ev, un_i_ev, un_b_ev, un_nil_ev, br_t, win_runsTo, one_ev, minI_eq, show min now 4611686018427387904 = now by omega, rtt_Rto, e3]
    exact stop
  · simp only [br_neg h, decide_eq_false h, if_neg h, halve_t hc0 hc, out_ev, un_i_ev, un_b_ev, un_nil_ev]
    exact stop
/-- A loss of what was sent ahead of a halving. -/
theorem lost_keeps {g cwnd slow pipe count hn ln due sm sp rto now : Int} {a li runs : Bool} (hp : 0 ≤ pipe) (hp1 : pipe < 1000000000) (hr : 0 ≤ rto) (hr1 : rto ≤ 64000000) (hn0 : 0 ≤ now) (hn1 : now ≤ 4611686018427387904)
    (hh : seq_Less hn g = some [.b false]) :
    win_Hear [] [] [g] cwnd slow pipe count hn true ln li runs due a sm sp rto 0 (-1) now = some [.i cwnd, .i slow, .i (max (pipe - 1) 0), .i count, .i hn, .b true, .i ln, .b li, .b (decide (max (pipe - 1) 0 > 0)), .i (if max (pipe - 1) 0 > 0 then now + rto else due), .b a, .i sm, .i sp, .i rto] := by
  have e1 : subI .i64 pipe 0 = pipe := by rw [subI_i (by unfold I63; omega)]; omega
  have e2 : subI .i64 pipe 1 = pipe - 1 := subI_i (by unfold I63; omega)
  have e3 : addI .i64 now rto = now + rto := addI_i (by unfold I63; omega)
  unfold win_Hear
  simp only [one_ev, len1, len0, e1, e2, maxI_eq]
  rw [br_neg (by omega), br_neg (by omega), br_pos (by omega)]
  simp only [decide_true, Bool.and_self, chk_t, where_lost, out_ev, un_i_ev, un_b_ev, un_nil_ev, br_t, hh, Bool.not_true, br_f]
  by_cases h : max (pipe - 1) 0 > 0
  · simp only [br_pos h, decide_eq_true h, if_pos h, out_ev, un_i_ev, un_b_ev, un_nil_ev, br_t, win_runsTo, one_ev, minI_eq, show min now 4611686018427387904 = now by omega, rtt_Rto, e3]
  · simp only [br_neg h, decide_eq_false h, if_neg h, out_ev, un_i_ev, un_b_ev, un_nil_ev, br_f]
/-- A mark on what was got: it halves. -/
theorem mark_halves {g cwnd slow pipe count hn ln due sm sp rto now c' k' : Int} {hi a runs : Bool} (hp : 0 ≤ pipe) (hp1 : pipe < 1000000000) (hr : 0 ≤ rto) (hr1 : rto ≤ 64000000) (hn0 : 0 ≤ now) (hn1 : now ≤ 4611686018427387904)
    (hg : win_grow cwnd slow (max (pipe - 1) 0) count hn hi ln true runs due a sm sp rto 1 = some [.i c', .i slow, .i (max (pipe - 1) 0), .i k', .i hn, .b hi, .i ln, .b true, .b runs, .i due, .b a, .i sm, .i sp, .i rto])
    (hc0 : 0 ≤ c') (hc : c' < 1000000000) (hh : hi = false ∨ seq_Less hn g = some [.b true]) :
    win_Hear [g] [] [] cwnd slow pipe count hn hi ln true runs due a sm sp rto 1 (-1) now = some [.i (max (c' / 2) 1), .i (max (c' / 2) 1), .i (max (pipe - 1) 0), .i 0, .i ln, .b true, .i ln, .b true, .b (decide (max (pipe - 1) 0 > 0)), .i (if max (pipe - 1) 0 > 0 then now + rto else due), .b a, .i sm, .i sp, .i rto] := by
  have e1 : subI .i64 pipe 1 = pipe - 1 := subI_i (by unfold I63; omega)
  have e2 : subI .i64 (pipe - 1) 0 = pipe - 1 := by rw [subI_i (by unfold I63; omega)]; omega
  have e3 : addI .i64 now rto = now + rto := addI_i (by unfold I63; omega)
  unfold win_Hear
  simp only [one_ev, len1, len0, e1, e2, maxI_eq]
  rw [br_neg (by omega), br_pos (by omega), hg]
  simp only [out_ev, un_i_ev, un_b_ev, un_nil_ev]
  rw [br_neg (by omega), br_pos (by omega)]
  simp only [decide_true, Bool.and_self, chk_t, where_got, out_ev, un_i_ev, un_b_ev, un_nil_ev, br_t]
  have stop : ∀ {x y : Option (List Leaf)}, br (!hi) x (out (seq_Less hn g) fun r => un_b r fun b r => un_nil r (br b x y)) = x := by
    intro x y
    cases hi with
    | false => rfl
    | true =>
      rcases hh with hh | hh
      · cases hh
      · rw [hh]; rfl
  by_cases h : max (pipe - 1) 0 > 0
  · simp only [br_pos h, decide_eq_true h, if_pos h, halve_t hc0 hc, out_ev, un_i_ev, un_b_ev, un_nil_ev, br_t, win_runsTo, one_ev, minI_eq, show min now 4611686018427387904 = now by omega, rtt_Rto, e3]
    exact stop
  · simp only [br_neg h, decide_eq_false h, if_neg h, halve_t hc0 hc, out_ev, un_i_ev, un_b_ev, un_nil_ev]
    exact stop
/-- .. no more, if it was sent ahead of the halving. -/
theorem mark_keeps {g cwnd slow pipe count hn ln due sm sp rto now c' k' : Int} {a li runs : Bool} (hp : 0 ≤ pipe) (hp1 : pipe < 1000000000) (hr : 0 ≤ rto) (hr1 : rto ≤ 64000000) (hn0 : 0 ≤ now) (hn1 : now ≤ 4611686018427387904)
    (hg : win_grow cwnd slow (max (pipe - 1) 0) count hn true ln li runs due a sm sp rto 1 = some [.i c', .i slow, .i (max (pipe - 1) 0), .i k', .i hn, .b true, .i ln, .b li, .b runs, .i due, .b a, .i sm, .i sp, .i rto])
    (hh : seq_Less hn g = some [.b false]) :
    win_Hear [g] [] [] cwnd slow pipe count hn true ln li runs due a sm sp rto 1 (-1) now = some [.i c', .i slow, .i (max (pipe - 1) 0), .i k', .i hn, .b true, .i ln, .b li, .b (decide (max (pipe - 1) 0 > 0)), .i (if max (pipe - 1) 0 > 0 then now + rto else due), .b a, .i sm, .i sp, .i rto] := by
  have e1 : subI .i64 pipe 1 = pipe - 1 := subI_i (by unfold I63; omega)
  have e2 : subI .i64 (pipe - 1) 0 = pipe - 1 := by rw [subI_i (by unfold I63; omega)]; omega
  have e3 : addI .i64 now rto = now + rto := addI_i (by unfold I63; omega)
  unfold win_Hear
  simp only [one_ev, len1, len0, e1, e2, maxI_eq]
  rw [br_neg (by omega), br_pos (by omega), hg]
  simp only [out_ev, un_i_ev, un_b_ev, un_nil_ev]
  rw [br_neg (by omega), br_pos (by omega)]
  simp only [decide_true, Bool.and_self, chk_t, where_got, out_ev, un_i_ev, un_b_ev, un_nil_ev, br_t, hh, Bool.not_true, br_f]
  by_cases h : max (pipe - 1) 0 > 0
  · simp only [br_pos h, decide_eq_true h, if_pos h, out_ev, un_i_ev, un_b_ev, un_nil_ev, br_t, win_runsTo, one_ev, minI_eq, show min now 4611686018427387904 = now by omega, rtt_Rto, e3]
  · simp only [br_neg h, decide_eq_false h, if_neg h, out_ev, un_i_ev, un_b_ev, un_nil_ev, br_f]
end Go.Sx.T

