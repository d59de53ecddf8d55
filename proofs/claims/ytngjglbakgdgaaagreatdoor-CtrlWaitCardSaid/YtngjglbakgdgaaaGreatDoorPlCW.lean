import Derived.Test.YtngjglbakgdgaaaGreatDoorPlPaceT
import Derived.Test.YtngjglbakgdgaaaGreatDoorPlNt
import Derived.Test.YtngjglbakgdgaaaGreatDoorYCWSpec
set_option linter.all false
namespace Go.Sx.T
open Go Go.Sx
theorem chk_T1 {α : Type} (x : Option α) : chk (decide True && true && true) x = x := by simp [chk_t]
theorem gets_old {s k h r now at_ : Int} (h1 : at_ ≤ now) (h2 : at_ ≤ 4611686018427387904) : pace_gets s k h r now at_ = some [.i s, .i k, .i h, .i r, .i now] := by
  unfold pace_gets
  simp only [one_ev, minI_eq, show min at_ 4611686018427387904 = at_ by omega]
  rw [br_pos h1]
theorem may_g {s k h r now at_ n h' now' : Int} (hg : pace_gets s k h r now at_ = some [.i s, .i k, .i h', .i r, .i now']) :
    pace_May s k h r now at_ n = some [.i s, .i k, .i h', .i r, .i now', .b (mayB h' n)] := by
  unfold pace_May mayB
  simp only [hg, out_ev, un_i_ev, un_nil_ev, one_ev]
  by_cases hn : 0 ≤ n
  · rw [br_pos hn]
    by_cases hn1 : n ≤ 65535
    · have e1 : wrapI .u64 n = n := by rw [wrapI_u]; omega
      have e2 : mulI .u64 64000000 n = 64000000 * n := by rw [mulI_u]; omega
      rw [br_pos hn1, e1, e2]
      congr 6
      simp [hn, hn1]
    · rw [br_neg hn1, decide_eq_false (by omega)]
  · rw [br_neg hn, decide_eq_false (by omega)]
theorem take_g {s k h r now at_ n h' now' : Int} (hg : pace_gets s k h r now at_ = some [.i s, .i k, .i h', .i r, .i now']) (hU : U h') :
    pace_Take s k h r now at_ n = some [.i s, .i k, .i (if mayB h' n = true then h' - 64000000 * n else h'), .i r, .i now', .b (mayB h' n)] := by
  unfold pace_Take
  simp only [may_g hg, out_ev, un_i_ev, un_b_ev, un_nil_ev, one_ev]
  cases hb : mayB h' n with
  | false => simp only [Bool.not_false, br_t]; rfl
  | true =>
    obtain ⟨b0, b1, b2⟩ := of_decide_eq_true hb
    have e1 : wrapI .u64 n = n := by rw [wrapI_u]; omega
    have e2 : mulI .u64 64000000 n = 64000000 * n := by rw [mulI_u]; omega
    unfold U at hU
    simp only [Bool.not_true, br_f, one_ev, e1, e2, if_true]
    rw [subI_u, show (h' - 64000000 * n) % 18446744073709551616 = h' - 64000000 * n by omega]
theorem turns_x {l0 l1 : List Int} {s x loss rtt db due ps pk ph pr pn now : Int} {h bg st : Bool} :
    cr_turns l0 l1 x s x loss rtt h db bg st due ps pk ph pr pn now = some [.li l0, .li l1, .i x, .i s, .i x, .i loss, .i rtt, .b h, .i db, .b bg, .b st, .i due, .i ps, .i pk, .i ph, .i pr, .i pn] := by
  unfold cr_turns tfrc_Rate
  simp only [one_ev, out_ev, un_i_ev, un_nil_ev, chk_T1, decide_true, Bool.and_true, chk_t]
  rw [show (x != x) = false by simp, br_f]
theorem crMay_x {l0 l1 : List Int} {s x loss rtt db due ps pk ph pr pn now n h' n' : Int} {h bg st : Bool} (hg : pace_gets ps pk ph pr pn now = some [.i ps, .i pk, .i h', .i pr, .i n']) :
    cr_May l0 l1 x s x loss rtt h db bg st due ps pk ph pr pn now n = some [.li l0, .li l1, .i x, .i s, .i x, .i loss, .i rtt, .b h, .i db, .b bg, .b st, .i due, .i ps, .i pk, .i h', .i pr, .i n', .b (mayB h' n)] := by
  unfold cr_May
  simp only [turns_x, may_g hg, out_ev, un_li_ev, un_i_ev, un_b_ev, un_nil_ev, decide_true, Bool.and_true, chk_t]
theorem crSent_x {l0 l1 : List Int} {s x loss rtt db due ps pk ph pr pn now t n h' n' : Int} {h bg st : Bool} (hg : pace_gets ps pk ph pr pn now = some [.i ps, .i pk, .i h', .i pr, .i n']) (hU : U h') :
    ∃ st' due', cr_Sent l0 l1 x s x loss rtt h db bg st due ps pk ph pr pn now t n = some [.li l0, .li l1, .i x, .i s, .i x, .i loss, .i rtt, .b h, .i db, .b true, .b st', .i due', .i ps, .i pk, .i (if mayB h' n = true then h' - 64000000 * n else h'), .i pr, .i n', .b (mayB h' n)] := by
  obtain ⟨st', due', es⟩ : ∃ st' due', tfrc_Start l0 l1 s x loss rtt h db bg st due now = some [.li l0, .li l1, .i s, .i x, .i loss, .i rtt, .b h, .i db, .b true, .b st', .i due'] := by
    unfold tfrc_Start
    cases bg
    · exact ⟨true, addI .i64 (min now 4611686018427387904) 2000000, by simp only [Bool.not_false, br_t, one_ev, minI_eq, decide_true, Bool.and_true, chk_t]⟩
    · exact ⟨st, due, by simp only [Bool.not_true, br_f, decide_true, Bool.and_true, chk_t]⟩
  refine ⟨st', due', ?_⟩
  unfold cr_Sent
  simp only [turns_x, es, take_g hg hU, out_ev, un_li_ev, un_i_ev, un_b_ev, un_nil_ev, decide_true, Bool.and_true, chk_t]
theorem wait3 {last s x loss rtt db due ps pk ph pr pn n size : Int} {h bg st : Bool} (kx : Nat → List Leaf → Option (List Leaf)) (kr : List Leaf → Option (List Leaf)) :
    CtrlWait_9111_L kx kr top [0] [18446744073709551615] 3 1000000 0 0 0 false 0 false false 0 false 0 0 3000000 last s x loss rtt h db bg st due ps pk ph pr pn 0 n size =
      kx 0 [.li [0], .li [18446744073709551615], .i last, .i s, .i x, .i loss, .i rtt, .b h, .i db, .b bg, .b st, .i due, .i ps, .i pk, .i ph, .i pr, .i pn, .i 3, .i 1000000, .i 3, .i 0, .i 0, .b false, .i 2, .b true, .b true, .i 3000000, .b false, .i 0, .i 0, .i 3000000, .i n, .i size] := by kernel_rfl
theorem new_win : win_New = some [.i 3, .i 1000000, .i 0, .i 0, .i 0, .b false, .i 0, .b false, .b false, .i 0, .b false, .i 0, .i 0, .i 3000000] := rfl
set_option maxRecDepth 100000 in
theorem CtrlWait_true (size n2 : Int) : CtrlWait size n2 = some [.b true] := by
  obtain ⟨N, hN0, hN1, eN⟩ := rem_N (m := 1400) (by decide) (by decide) size
  obtain ⟨M, hM0, hM1, eM⟩ := rem_N (m := 1400) (by decide) (by decide) n2
  obtain ⟨s, hs⟩ : ∃ s, s = 1 + N := ⟨_, rfl⟩
  obtain ⟨n, hn⟩ : ∃ n, n = 1 + M := ⟨_, rfl⟩
  have e1 : addI .i64 1 N = s := by rw [addI_i (show I63 (1 + N) by unfold I63; omega), hs]
  have e2 : addI .i64 1 M = n := by rw [addI_i (show I63 (1 + M) by unfold I63; omega), hn]
  have s1 : 1 ≤ s := by omega
  have s2 : s ≤ 1400 := by omega
  have n1 : 1 ≤ n := by omega
  have n2' : n ≤ 1400 := by omega
  obtain ⟨X, hX⟩ : ∃ X, X = 64 * s := ⟨_, rfl⟩
  have XU : U X := by unfold U; omega
  have wn : wrapI .u64 n = n := by rw [wrapI_u]; omega
  have ws : wrapI .u64 s = s := by rw [wrapI_u]; omega
  have m1 : mulI .u64 64 s = X := by rw [mulI_u]; omega
  have m2 : mulI .i64 64 s = X := by rw [mulI_i (by unfold I63; omega), hX]
  obtain ⟨W, hW⟩ : ∃ W, W = mdI 64000000 n X := ⟨_, rfl⟩
  have hW2 : W = 64000000 * n / X := by
    rw [hW]; unfold mdI
    rw [if_neg (by omega)]
    have : 64000000 * n / X ≤ 64000000 * n := Int.ediv_le_self _ (by omega)
    omega
  have hlo : X * W ≤ 64000000 * n := by rw [hW2]; exact Int.mul_ediv_self_le (by omega)
  have hhi : 64000000 * n < X * W + X := by
    have := Int.lt_mul_ediv_self_add (x := 64000000 * n) (k := X) (by omega)
    rw [hW2]; omega
  have hW0 : 0 ≤ W := by rw [hW2]; exact Int.ediv_nonneg (by omega) (by omega)
  have hW1 : W ≤ 89600000000 := by rw [hW2]; exact Int.le_trans (Int.ediv_le_self _ (by omega)) (by omega)
  have wW : wrapI .i64 W = W := wrapI_i (by unfold I63; omega)
  have f1 : subI .i64 W 1 = W - 1 := subI_i (by unfold I63; omega)
  obtain ⟨t1, ht1⟩ : ∃ t1, t1 = W - 1 - X := ⟨_, rfl⟩
  have f2 : subI .i64 (W - 1) X = t1 := by rw [subI_i (by unfold I63; omega), ht1]
  have f3 : addI .i64 W 1 = W + 1 := addI_i (by unfold I63; omega)
  have eMD : ref_MulDiv 64000000 n X = some [.i W] := by rw [ref_MulDiv_t (by unfold U; omega) (by unfold U; omega) XU, hW]
  -- the bucket
  have p0 := PS.new (s := 1400) (k := 10000) (by omega) (by omega) (by omega) (by omega)
  have p1 := p0.rate (at_ := 0) (x := X) (by omega) (by omega) XU
  have g0 : getH 1400 10000 0 0 0 0 = 0 := if_pos (by omega)
  obtain ⟨C, hC⟩ : ∃ C, C = capI 1400 10000 X := ⟨_, rfl⟩
  have hC1 : 89600000000 ≤ C := by rw [hC]; unfold capI; omega
  have z : min (0 : Int) C = 0 := by omega
  rw [g0, ← hC, z, show max (0 : Int) 0 = 0 by omega] at p1
  have rt := rate_t p0 (at_ := 0) (x := X) (by omega) (by omega) XU
  rw [g0, ← hC, z, show max (0 : Int) 0 = 0 by omega] at rt
  have g00 : pace_gets 1400 10000 0 X 0 0 = some [.i 1400, .i 10000, .i 0, .i X, .i 0] := gets_old (by omega) (by omega)
  have no0 : mayB 0 n = false := decide_eq_false (by omega)
  have first : cr_May [0] [18446744073709551615] 0 s X 0 0 false 0 false false 0 1400 10000 0 0 0 0 n = some [.li [0], .li [18446744073709551615], .i X, .i s, .i X, .i 0, .i 0, .b false, .i 0, .b false, .b false, .i 0, .i 1400, .i 10000, .i 0, .i X, .i 0, .b false] := by
    unfold cr_May cr_turns tfrc_Rate
    simp only [one_ev, out_ev, un_i_ev, un_nil_ev, decide_true, Bool.and_true, chk_t]
    rw [show (X != 0) = true by simp; omega, br_t, rt]
    simp only [out_ev, un_li_ev, un_i_ev, un_b_ev, un_nil_ev, may_g g00, no0]
  -- ahead of the time
  obtain ⟨h1, u1, hg1, hh1, hu1, hlt1, hu2⟩ : ∃ h1 u1, pace_gets 1400 10000 0 X 0 t1 = some [.i 1400, .i 10000, .i h1, .i X, .i u1] ∧ h1 = X * u1 ∧ 0 ≤ u1 ∧ h1 < 64000000 * n ∧ u1 < W + 1 := by
    by_cases ht : t1 ≤ 0
    · exact ⟨0, 0, gets_old ht (by omega), by omega, by omega, by omega, by omega⟩
    · have hle : X * t1 ≤ X * W := Int.mul_le_mul_of_nonneg_left (by omega) (by omega)
      have hXt : X * t1 + X ≤ X * W := by
        have := Int.mul_le_mul_of_nonneg_left (show t1 + 1 ≤ W by omega) (show 0 ≤ X by omega)
        rw [Int.mul_add] at this; omega
      have h0 : 0 ≤ X * t1 := Int.mul_nonneg (by omega) (by omega)
      have q := gets_t p1 (at_ := t1) (by omega) (by omega)
      have e : getH 1400 10000 0 X 0 t1 = X * t1 := by
        unfold getH
        rw [if_neg ht, ← hC, show t1 - 0 = t1 by omega, satM_eq (by unfold M64; omega), satA_eq (by unfold M64; omega)]
        omega
      rw [e, show max (0 : Int) t1 = t1 by omega] at q
      exact ⟨X * t1, t1, q, rfl, by omega, by omega, by omega⟩
  have no1 : mayB h1 n = false := decide_eq_false (by omega)
  have h10 : 0 ≤ h1 := by rw [hh1]; exact Int.mul_nonneg (by omega) hu1
  have p2 : PS 1400 10000 h1 X u1 := ⟨by omega, by omega, by omega, by omega, h10, by rw [← hC]; omega, XU, hu1, by omega⟩
  -- at the time
  obtain ⟨h2, hh2⟩ : ∃ h2, h2 = min (X * W + X) C := ⟨_, rfl⟩
  have hg2 : pace_gets 1400 10000 h1 X u1 (W + 1) = some [.i 1400, .i 10000, .i h2, .i X, .i (W + 1)] := by
    have q := gets_t p2 (at_ := W + 1) (by omega) (by omega)
    have hsum : X * (W + 1 - u1) = X * W + X - h1 := by rw [hh1, Int.mul_sub, Int.mul_add]; omega
    have e : getH 1400 10000 h1 X u1 (W + 1) = h2 := by
      unfold getH
      rw [if_neg (by omega), ← hC, satM_eq (by rw [hsum]; unfold M64; omega), hsum, satA_eq (by unfold M64; omega), hh2]
      omega
    rw [e, show max u1 (W + 1) = W + 1 by omega] at q
    exact q
  have yes2 : mayB h2 n = true := decide_eq_true (by omega)
  have hg3 : pace_gets 1400 10000 h2 X (W + 1) (W + 1) = some [.i 1400, .i 10000, .i h2, .i X, .i (W + 1)] := gets_old (by omega) (by omega)
  obtain ⟨h3, hh3⟩ : ∃ h3, h3 = h2 - 64000000 * n := ⟨_, rfl⟩
  have hg4 : pace_gets 1400 10000 h3 X (W + 1) (W + 1) = some [.i 1400, .i 10000, .i h3, .i X, .i (W + 1)] := gets_old (by omega) (by omega)
  have no3 : mayB h3 n = false := decide_eq_false (by omega)
  obtain ⟨st3, due3, q3⟩ := crSent_x (l0 := [0]) (l1 := [18446744073709551615]) (s := s) (x := X) (loss := 0) (rtt := 0) (db := 0) (due := 0) (t := 1) (n := n) (h := false) (bg := false) (st := false) hg3 (by unfold U; omega)
  rw [yes2, if_pos rfl, ← hh3] at q3
  obtain ⟨st4, due4, q4⟩ := crSent_x (l0 := [0]) (l1 := [18446744073709551615]) (s := s) (x := X) (loss := 0) (rtt := 0) (db := 0) (due := due3) (t := 2) (n := n) (h := false) (bg := true) (st := st3) hg4 (by unfold U; omega)
  rw [no3] at q4
  have nt := new_t s1 s2
  rw [← hX] at nt
  unfold CtrlWait CtrlWait_d
  simp only [one_ev, eN, eM, e1, e2, nt, new_win, new_pace (s := 1400) (k := 10000) (by omega) (by omega) (by omega) (by omega), out_ev, un_li_ev, un_i_ev, un_b_ev, un_nil_ev]
  rw [wait3]
  have w1 : cw_May 3 1000000 3 0 0 false 2 true true 3000000 false 0 0 3000000 0 n = some [.i 3, .i 1000000, .i 3, .i 0, .i 0, .b false, .i 2, .b true, .b true, .i 3000000, .b false, .i 0, .i 0, .i 3000000, .b false] := by kernel_rfl
  have w2 : cw_Sent 3 1000000 3 0 0 false 2 true true 3000000 false 0 0 3000000 0 9 n = some [.i 3, .i 1000000, .i 3, .i 0, .i 0, .b false, .i 2, .b true, .b true, .i 3000000, .b false, .i 0, .i 0, .i 3000000, .b false] := by kernel_rfl
  have m3 := crMay_x (l0 := [0]) (l1 := [18446744073709551615]) (s := s) (x := X) (loss := 0) (rtt := 0) (db := 0) (due := 0) (n := n) (h := false) (bg := false) (st := false) hg1
  rw [no1] at m3
  have m4 := crMay_x (l0 := [0]) (l1 := [18446744073709551615]) (s := s) (x := X) (loss := 0) (rtt := 0) (db := 0) (due := 0) (n := n) (h := false) (bg := false) (st := false) hg2
  rw [yes2] at m4
  simp only [List.length_cons, List.length_nil, decide_true, Bool.and_true, chk_t, beq00, br_t, br_f, un_li_ev, un_i_ev, un_b_ev, un_nil_ev, one_ev, out_ev, w1, w2, first, wn, ws, m1, m2, eMD, wW, f1, f2, f3, m3, m4, q3, q4, Bool.not_false]
end Go.Sx.T

