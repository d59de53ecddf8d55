import Derived.Test.YtngjglbakgdgaaaGreatDoorPlSt
import Derived.Test.YtngjglbakgdgaaaGreatDoorYnTfrcSpec
set_option linter.all false
namespace Go.Sx.T
open Go Go.Sx
theorem chk_tt (n : Int) {α : Type} (x : Option α) : chk (decide (n = n) && true && true) x = x := by
  rw [decide_eq_true rfl]; exact chk_t x
theorem chk_TT {α : Type} (x : Option α) : chk (decide True && true && true) x = x := by
  rw [decide_eq_true trivial]; exact chk_t x
theorem mdI_le {a b c m : Int} (ha : 0 ≤ a) (hb : 0 ≤ b) (hc : 0 < c) (h : a * b ≤ m * c) : mdI a b c ≤ m := by
  unfold mdI
  rw [if_neg (by omega)]
  have : a * b / c ≤ m := Int.ediv_le_of_le_mul hc h
  omega
def clT (n : Int) : Int := minI (maxI n 0) 4611686018427387904
def topU : Int := 18446744073709551615
theorem max1 (a v : Int) : rset_Max [a] [v] = some [.i (maxI 0 v)] := by kernel_rfl
theorem max2 (a b v w : Int) : rset_Max [a, b] [v, w] = some [.i (maxI (maxI 0 v) w)] := by kernel_rfl
theorem maximize1 (a v m now : Int) : rset_Maximize [a] [v] m now = br (v != 18446744073709551615) (some [.li [clT now], .li [maxI m v]]) (some [.li [clT now], .li [m]]) := by kernel_rfl
theorem maximize2 (a b v m now : Int) : rset_Maximize [a, b] [18446744073709551615, v] m now = br (v != 18446744073709551615) (some [.li [clT now], .li [maxI m v]]) (some [.li [clT now], .li [m]]) := by kernel_rfl
theorem halve1 (a v : Int) : rset_Halve [a] [v] = br (v != 18446744073709551615) (some [.li [a], .li [quoI .u64 v 2]]) (some [.li [a], .li [v]]) := by kernel_rfl
theorem only_t (l0 l1 : List Int) (x now : Int) : rset_Only l0 l1 x now = some [.li [clT now], .li [x]] := by kernel_rfl
theorem index2 (r v w : Int) : set_IndexFunc [0, 0] [v, w] 0 r = br (decide (0 < subI .i64 0 (mulI .i64 2 r))) (some [.i 0, .i r, .i 0]) (br (decide (0 < subI .i64 0 (mulI .i64 2 r))) (some [.i 0, .i r, .i 1]) (some [.i 0, .i r, .i (-1)])) := by kernel_rfl
theorem upd_first {r : Int} (v : Int) (h1 : 1 ≤ r) (h2 : r ≤ 4294967296) : rset_Update [0] [18446744073709551615] v 0 r = some [.li [0, 0], .li [18446744073709551615, v]] := by
  have e1 : minI (maxI r 0) 1099511627776 = r := by rw [minI_eq, maxI_eq]; omega
  have e2 : mulI .i64 2 r = 2 * r := mulI_i (by unfold I63; omega)
  have e3 : subI .i64 0 (2 * r) = - (2 * r) := by rw [subI_i (by unfold I63; omega)]; omega
  have hn : ¬ (0 : Int) < - (2 * r) := by omega
  have d : set_DeleteFunc ([0] ++ [0]) ([18446744073709551615] ++ [v]) 0 r = some [.li [0, 0], .li [18446744073709551615, v], .i 0, .i r] := by
    show set_DeleteFunc [0, 0] [18446744073709551615, v] 0 r = _
    unfold set_DeleteFunc set_DeleteFunc_d
    rw [index2, e2, e3, br_neg hn, br_neg hn]
    kernel_rfl
  unfold rset_Update
  simp only [one_ev, show minI (maxI 0 0) 4611686018427387904 = 0 by decide, e1]
  rw [d]
  rfl
/-- What one begins with. -/
def bgI (s r : Int) : Int := mdI (64 * min (4 * s) (max (2 * s) 4380)) 1000000 r
theorem bgI_b {s r : Int} (h1 : 1 ≤ s) (h2 : s ≤ 1400) (h3 : 1 ≤ r) (h4 : r ≤ 4294967296) : 0 ≤ bgI s r ∧ bgI s r ≤ 360000000000 := by
  refine ⟨(mdI_U _ _ _ (by omega) (by omega) (by omega)).1, ?_⟩
  unfold bgI
  refine mdI_le (by omega) (by omega) (by omega) ?_
  have a1 : 64 * min (4 * s) (max (2 * s) 4380) * 1000000 ≤ 360000000000 := by omega
  have a2 : 360000000000 * 1 ≤ 360000000000 * r := by omega
  omega
theorem begin_t {l0 l1 : List Int} {s x loss r db due : Int} {h bg st : Bool} (h1 : 1 ≤ s) (h2 : s ≤ 1400) (h3 : 1 ≤ r) (h4 : r ≤ 4294967296) : tfrc_begin l0 l1 s x loss r h db bg st due = some [.i (bgI s r)] := by
  unfold tfrc_begin bgI
  have e1 : mulI .u64 4 s = 4 * s := by rw [mulI_u]; omega
  have e2 : mulI .u64 2 s = 2 * s := by rw [mulI_u]; omega
  obtain ⟨w, hw⟩ : ∃ w, w = min (4 * s) (max (2 * s) 4380) := ⟨_, rfl⟩
  have e3 : mulI .u64 64 w = 64 * w := by rw [mulI_u]; omega
  have e4 : wrapI .u64 r = r := by rw [wrapI_u]; omega
  simp only [one_ev, e1, e2, minI_eq, maxI_eq, ← hw, e3, e4, fix_MulDiv_t (show U (64 * w) by unfold U; omega) (show U 1000000 by unfold U; omega) (show U r by unfold U; omega), out_ev, un_i_ev, un_nil_ev]
def waitD (now s r x : Int) : Int := now + max (4 * r) (mdI (128 * s) 1000000 x)
theorem waitM_b {s x : Int} (h1 : 1 ≤ s) (h2 : s ≤ 1400) (hx : s ≤ x) : 0 ≤ mdI (128 * s) 1000000 x ∧ mdI (128 * s) 1000000 x ≤ 128000000 := by
  refine ⟨(mdI_U _ _ _ (by omega) (by omega) (by omega)).1, mdI_le (by omega) (by omega) (by omega) ?_⟩
  omega
theorem waits_t {l0 l1 : List Int} {s x loss r db due now : Int} {h bg st : Bool} (h1 : 1 ≤ s) (h2 : s ≤ 1400) (h3 : 1 ≤ r) (h4 : r ≤ 4294967296) (hx : s ≤ x) (hxU : x < 18446744073709551616) (hn : 0 ≤ now) (hn1 : now ≤ 4611686018427387904) :
    tfrc_waits l0 l1 s x loss r h db bg st due now = some [.li l0, .li l1, .i s, .i x, .i loss, .i r, .b h, .i db, .b bg, .b true, .i (waitD now s r x)] := by
  have hb := waitM_b h1 h2 hx
  unfold tfrc_waits waitD
  have e1 : mulI .u64 128 s = 128 * s := by rw [mulI_u]; omega
  have e2 : mulI .i64 4 r = 4 * r := mulI_i (by unfold I63; omega)
  obtain ⟨w, hw⟩ : ∃ w, w = mdI (128 * s) 1000000 x := ⟨_, rfl⟩
  rw [← hw] at hb
  have e3 : wrapI .i64 w = w := wrapI_i (by unfold I63; omega)
  have e4 : addI .i64 now (max (4 * r) w) = now + max (4 * r) w := addI_i (by unfold I63; omega)
  have e5 : min now 4611686018427387904 = now := by omega
  simp only [one_ev, e1, e2, minI_eq, maxI_eq, e5, fix_MulDiv_t (show U (128 * s) by unfold U; omega) (show U 1000000 by unfold U; omega) (show U x by unfold U; omega), ← hw, e3, e4, out_ev, un_i_ev, un_nil_ev, chk_tt, chk_TT]
/-- A state that has heard. -/
structure TS (s x r db now : Int) : Prop where
  s1 : 1 ≤ s
  s2 : s ≤ 1400
  x1 : s ≤ x
  x2 : x ≤ 9007199254740992
  r1 : 1 ≤ r
  r2 : r ≤ 4294967296
  d0 : 0 ≤ db
  d1 : db ≤ now
  n0 : 0 ≤ now
  n1 : now ≤ 4611686018427387904
def nxR (r sample : Int) : Int := (9 * r + min (max sample 1) 4294967296) / 10
/-- The rate behind a hearing without loss. -/
def nxX (s x r db now m : Int) : Int := if now ≥ db + r then max (max (min (satM 2 x) m) (bgI s r)) s else max x s
theorem hear_no {l0 l1 L0 L1 : List Int} {s x loss r db due now sample v m : Int} {bg st lim : Bool} (hs : TS s x r db now) (hm0 : 0 ≤ m) (hm1 : m ≤ 4503599627370496)
    (hl : tfrc_limit l0 l1 s x loss (nxR r sample) true db bg st due now (min v 1125899906842624) 0 lim = some [.li L0, .li L1, .i s, .i x, .i loss, .i (nxR r sample), .b true, .i db, .b bg, .b st, .i due, .i m]) :
    tfrc_Hear l0 l1 s x loss r true db bg st due now sample v 0 lim =
      some [.li L0, .li L1, .i s, .i (nxX s x (nxR r sample) db now m), .i 0, .i (nxR r sample), .b true, .i (if now ≥ db + nxR r sample then now else db), .b bg, .b true, .i (waitD now s (nxR r sample) (nxX s x (nxR r sample) db now m))] := by
  obtain ⟨s1, s2, x1, x2, r1, r2, d0, d1, n0, n1⟩ := hs
  obtain ⟨c, hc⟩ : ∃ c, c = min (max sample 1) 4294967296 := ⟨_, rfl⟩
  have hc1 : 1 ≤ c ∧ c ≤ 4294967296 := by omega
  have e1 : mulI .i64 9 r = 9 * r := mulI_i (by unfold I63; omega)
  have e2 : addI .i64 (9 * r) c = 9 * r + c := addI_i (by unfold I63; omega)
  have e3 : quoI .i64 (9 * r + c) 10 = nxR r sample := by unfold nxR; rw [← hc]; exact quoI_n (by omega) (by omega) (by omega)
  have hR : 1 ≤ nxR r sample ∧ nxR r sample ≤ 4294967296 := by unfold nxR; rw [← hc]; omega
  obtain ⟨R, hRe⟩ : ∃ R, R = nxR r sample := ⟨_, rfl⟩
  rw [← hRe] at hR hl e3 ⊢
  have en : min (max now 0) 4611686018427387904 = now := by omega
  have e4 : addI .i64 db R = db + R := addI_i (by unfold I63; omega)
  have hb := bgI_b s1 s2 hR.1 hR.2
  unfold tfrc_Hear
  simp only [one_ev, maxI_eq, minI_eq, en, ← hc, e1, e2, e3, Bool.not_true, br_f, chk_tt, chk_TT, show min (0 : Int) 4294967296 = 0 by omega]
  rw [hl]
  simp only [out_ev, un_li_ev, un_i_ev, un_b_ev, un_nil_ev, Bool.not_true, Bool.not_false, br_t]
  rw [br_neg (by omega)]
  simp only [one_ev, e4]
  unfold nxX
  by_cases hd : now ≥ db + R
  · have sx : satM 2 x = 2 * x := satM_eq (by unfold M64; omega)
    rw [br_pos hd, fix_Mul_s (show U 2 by unfold U; omega) (show U x by unfold U; omega)]
    simp only [out_ev, un_i_ev, un_nil_ev, one_ev, maxI_eq, minI_eq, chk_tt, chk_TT, begin_t s1 s2 hR.1 hR.2]
    rw [if_pos hd, if_pos hd, waits_t s1 s2 hR.1 hR.2 (by omega) (by omega) n0 n1]
    simp only [out_ev, un_li_ev, un_i_ev, un_b_ev, un_nil_ev, chk_tt, chk_TT]
  · rw [br_neg hd]
    rw [if_neg hd, if_neg hd, waits_t s1 s2 hR.1 hR.2 (by omega) (by omega) n0 n1]
    simp only [out_ev, un_li_ev, un_i_ev, un_b_ev, un_nil_ev, chk_tt, chk_TT]
/-- The first hearing, of no loss, unlimited. -/
theorem hear_first {s x v r due : Int} {bg st : Bool} (s1 : 1 ≤ s) (s2 : s ≤ 1400) (h3 : 1 ≤ r) (h4 : r ≤ 4294967296) (hv0 : 0 ≤ v) :
    tfrc_Hear [0] [18446744073709551615] s x 0 0 false 0 bg st due 0 r v 0 false =
      some [.li [0, 0], .li [18446744073709551615, min v 1125899906842624], .i s, .i (max (bgI s r) s), .i 0, .i r, .b true, .i 0, .b bg, .b true, .i (waitD 0 s r (max (bgI s r) s))] := by
  have hb := bgI_b s1 s2 h3 h4
  unfold tfrc_Hear
  have ec : min (max r 1) 4294967296 = r := by omega
  simp only [one_ev, maxI_eq, minI_eq, ec, Bool.not_false, br_t, chk_tt, chk_TT, show min (0 : Int) 4294967296 = 0 by omega, show min (max (0 : Int) 0) 4611686018427387904 = 0 by omega, begin_t s1 s2 h3 h4, out_ev, un_i_ev, un_nil_ev]
  unfold tfrc_limit
  simp only [br_f, chk_tt, chk_TT, upd_first _ h3 h4, max2, out_ev, un_li_ev, un_i_ev, un_nil_ev]
  have hm : maxI (maxI 0 18446744073709551615) (min v 1125899906842624) = 18446744073709551615 := by rw [maxI_eq, maxI_eq]; omega
  rw [hm, fix_Mul_s (show U 2 by unfold U; omega) (show U 18446744073709551615 by unfold U; omega)]
  simp only [chk_tt, chk_TT, out_ev, un_li_ev, un_i_ev, un_b_ev, un_nil_ev, Bool.not_false, Bool.not_true, br_f, one_ev, maxI_eq]
  rw [br_neg (by omega), waits_t s1 s2 h3 h4 (by omega) (by omega) (by omega) (by omega)]
  simp only [out_ev, un_li_ev, un_i_ev, un_b_ev, un_nil_ev, chk_tt, chk_TT]
theorem new_t {s : Int} (s1 : 1 ≤ s) (s2 : s ≤ 1400) : tfrc_New s = some [.li [0], .li [18446744073709551615], .i s, .i (64 * s), .i 0, .i 0, .b false, .i 0, .b false, .b false, .i 0] := by
  have e1 : wrapI .u64 s = s := by rw [wrapI_u]; omega
  have e2 : mulI .u64 64 s = 64 * s := by rw [mulI_u]; omega
  unfold tfrc_New
  rw [br_neg (by omega), br_neg (by omega)]
  simp only [one_ev, e1, e2, show rset_New = some [.li [0], .li [18446744073709551615]] by kernel_rfl, out_ev, un_li_ev, un_nil_ev, chk_tt, chk_TT]
end Go.Sx.T

