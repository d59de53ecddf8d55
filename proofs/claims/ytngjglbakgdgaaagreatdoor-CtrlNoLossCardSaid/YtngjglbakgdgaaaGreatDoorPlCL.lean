import Derived.Test.YtngjglbakgdgaaaGreatDoorPlnCt
import Derived.Test.YtngjglbakgdgaaaGreatDoorPlWS0
import Derived.Test.YtngjglbakgdgaaaGreatDoorYCLSpec
set_option linter.all false
namespace Go.Sx.T
open Go Go.Sx
theorem clW {n2 r K : Int} (hK : remI .i64 (addI .i64 (remI .i64 n2 20) 20) 20 = K) (hK0 : 0 ≤ K) (hK1 : K < 20) (r0 : 1000 ≤ r) (r1 : r ≤ 2000000) {α : Type} (kx : Nat → List Leaf → Option α) (kr : List Leaf → Option α) : ∀ (m n : Nat) (i now cw hn ln due sm sp rto : Int) (hi li runs a : Bool), 0 ≤ i → i + m = 2 + K → SA a sm sp rto → 0 ≤ now → now ≤ i * 3000000 → cw ≤ 3 + i → m < n →
    CtrlNoLoss_11111_L kx kr n (3 + i) 1000000 0 0 hn hi ln li runs due a sm sp rto i cw 0 r now n2 = kx 0 []
  | 0, n, i, now, cw, hn, ln, due, sm, sp, rto, hi, li, runs, a, h0, h1, hS, hnow, hnow1, hcw, hn' => by
    obtain ⟨n, rfl⟩ : ∃ n', n = n' + 1 := ⟨n - 1, by omega⟩
    have e0 : addI .i64 2 K = 2 + K := addI_i (by unfold I63; omega)
    simp only [CtrlNoLoss_11111_L, CtrlNoLoss_11111_B, one_ev, hK, e0]
    rw [br_neg (by omega)]
  | m + 1, n, i, now, cw, hn, ln, due, sm, sp, rto, hi, li, runs, a, h0, h1, hS, hnow, hnow1, hcw, hn' => by
    obtain ⟨n, rfl⟩ : ∃ n', n = n' + 1 := ⟨n - 1, by omega⟩
    have e0 : addI .i64 2 K = 2 + K := addI_i (by unfold I63; omega)
    have e1 : addI .i64 i 1 = i + 1 := addI_i (by unfold I63; omega)
    have e2 : addI .i64 r 1 = r + 1 := addI_i (by unfold I63; omega)
    have e3 : addI .i64 now (r + 1) = now + (r + 1) := addI_i (by unfold I63; omega)
    have e4 : wrapI .u64 i = i := by rw [wrapI_u]; omega
    have hr := hS.rto
    obtain ⟨sm', sp', rto', g1, g2⟩ := hS.samp r
    have sent : ∃ ln' li' runs' due', win_Sent (3 + i) 1000000 0 0 hn hi ln li runs due a sm sp rto i now = some [.i (3 + i), .i 1000000, .i 1, .i 0, .i hn, .b hi, .i ln', .b li', .b runs', .i due', .b a, .i sm, .i sp, .i rto, .b true] := by
      cases runs
      · exact ⟨_, _, _, _, sent_go0 (show 0 < 3 + i by omega) (by omega) (by omega) hr.1 hr.2 hnow (by omega)⟩
      · exact ⟨_, _, _, _, sent_go1 (show 0 < 3 + i by omega) (by omega) (by omega)⟩
    obtain ⟨ln1, li1, runs1, due1, es⟩ := sent
    have eg := grow_n (k := 1) (cwnd := 3 + i) (pipe := 0) (hn := hn) (ln := ln1) (due := due1) (sm := sm') (sp := sp') (rto := rto') (hi := hi) (li := li1) (a := true) (runs := runs1) (by omega) (by omega) (by omega) (by omega)
    have s0 : subI .i64 1 1 = 0 := by decide
    have s1 : subI .i64 0 0 = 0 := by decide
    have m0 : maxI 0 0 = 0 := by decide
    have ih := clW hK hK0 hK1 r0 r1 kx kr m n (i + 1) (now + (r + 1)) (3 + i + 1) hn ln1 due1 sm' sp' rto' hi li1 false true (by omega) (by omega) g2 (by omega) (by rw [Int.add_mul]; omega) (by omega) (by omega)
    rw [show 3 + (i + 1) = 3 + i + 1 by omega] at ih
    rw [← ih]
    simp only [CtrlNoLoss_11111_L, CtrlNoLoss_11111_B, one_ev, hK, e0]
    rw [br_pos (by omega)]
    simp only [cw_Sent, e1, e2, e3, e4, es, out_ev, un_i_ev, un_b_ev, un_nil_ev, one_ev]
    simp only [s0, s1, m0, show ((1 : Nat) : Int) = 1 from rfl]
    rw [br_pos (show r ≥ 0 by omega), g1]
    simp only [out_ev, un_i_ev, un_b_ev, un_nil_ev, one_ev]
    rw [br_pos (by omega)]
    simp only [eg, win_Cwnd, out_ev, un_i_ev, un_b_ev, un_nil_ev, one_ev]
    rw [br_neg (show ¬ (0 : Int) > 0 by omega)]
    rw [br_neg (show ¬ 3 + i + 1 ≤ cw by omega)]
/-- What was told: the last two times. -/
theorem two_t {a b v now r : Int} (hr0 : 1000 ≤ r) (hr1 : r ≤ 2000000) (hb0 : 0 ≤ b) (hb1 : b ≤ 1000000000) (ha : a = b - (r + 1)) (hn : now = b + (r + 1)) :
    mfK (delB now r) ([a, b] ++ [now]) = [b, now] ∧ mfV (delB now r) ([a, b] ++ [now]) ([v, 1099511627776] ++ [1099511627776]) = [1099511627776, 1099511627776] := by
  have e1 : mulI .i64 2 r = 2 * r := mulI_i (by unfold I63; omega)
  have e2 : subI .i64 now (2 * r) = now - 2 * r := subI_i (by unfold I63; omega)
  have da : delB now r a = true := by unfold delB; rw [e1, e2]; exact decide_eq_true (by omega)
  have db : delB now r b = false := by unfold delB; rw [e1, e2]; exact decide_eq_false (by omega)
  have dn : delB now r now = false := by unfold delB; rw [e1, e2]; exact decide_eq_false (by omega)
  simp only [List.cons_append, List.nil_append, mfK, mfV, da, db, dn, cond_true, cond_false, and_self]
theorem one_t {now r : Int} (hr0 : 1000 ≤ r) (hr1 : r ≤ 2000000) (hn : now = r + 1) (v : Int) :
    mfK (delB now r) [0, now] = [0, now] ∧ mfV (delB now r) [0, now] [18446744073709551615, v] = [18446744073709551615, v] := by
  have e1 : mulI .i64 2 r = 2 * r := mulI_i (by unfold I63; omega)
  have e2 : subI .i64 now (2 * r) = now - 2 * r := subI_i (by unfold I63; omega)
  have d0 : delB now r 0 = false := by unfold delB; rw [e1, e2]; exact decide_eq_false (by omega)
  have dn : delB now r now = false := by unfold delB; rw [e1, e2]; exact decide_eq_false (by omega)
  simp only [mfK, mfV, d0, dn, cond_false, and_self]
theorem nxR_r {r : Int} (hr0 : 1000 ≤ r) (hr1 : r ≤ 2000000) : nxR r r = r := by unfold nxR; omega
/-- A hearing behind the first. -/
theorem hearK {s x r b a v now due : Int} {bg st : Bool} (s1 : 1 ≤ s) (s2 : s ≤ 1400) (hx0 : s ≤ x) (hx1 : x ≤ 2199023255552) (hr0 : 1000 ≤ r) (hr1 : r ≤ 2000000) (hb0 : 0 ≤ b) (hb1 : b ≤ 1000000000) (ha : a = b - (r + 1)) (hn : now = b + (r + 1)) (hv0 : 0 ≤ v) (hv1 : v < 18446744073709551616) :
    ∃ x' due', x ≤ x' ∧ x' ≤ 2199023255552 ∧ tfrc_Hear [a, b] [v, 1099511627776] s x 0 r true b bg st due now r 1099511627776 0 false = some [.li [b, now], .li [1099511627776, 1099511627776], .i s, .i x', .i 0, .i r, .b true, .i now, .b bg, .b true, .i due'] := by
  obtain ⟨t1, t2⟩ := two_t (v := v) hr0 hr1 hb0 hb1 ha hn
  have hl := lim_t (l0 := [a, b]) (l1 := [v, 1099511627776]) (s := s) (x := x) (loss := 0) (r := r) (db := b) (due := due) (now := now) (v := 1099511627776) (p := 0) (h := true) (bg := bg) (st := st) (by simp) (by simp) (by omega) (by omega) (by omega) (by omega) (by
    intro y hy
    simp only [List.cons_append, List.nil_append, List.mem_cons, List.not_mem_nil, or_false] at hy
    omega)
  rw [t1, t2, show satM 2 ([1099511627776, 1099511627776].foldl max 0) = 2199023255552 by decide] at hl
  have hts : TS s x r b now := ⟨s1, s2, hx0, by omega, by omega, by omega, hb0, by omega, by omega, by omega⟩
  have nr := nxR_r hr0 hr1
  have hh := hear_no (sample := r) (v := 1099511627776) (m := 2199023255552) (lim := false) hts (by omega) (by omega) (by rw [nr, show min (1099511627776 : Int) 1125899906842624 = 1099511627776 by decide]; exact hl)
  rw [nr, if_pos (by omega)] at hh
  have hb := bgI_b s1 s2 (show 1 ≤ r by omega) (show r ≤ 4294967296 by omega)
  have sx : satM 2 x = 2 * x := satM_eq (by unfold M64; omega)
  refine ⟨_, _, ?_, ?_, hh⟩
  · unfold nxX; rw [if_pos (by omega), sx]; omega
  · unfold nxX; rw [if_pos (by omega), sx]; omega
theorem clR {n2 r K s : Int} (hK : remI .i64 (addI .i64 (remI .i64 n2 20) 20) 20 = K) (hK0 : 0 ≤ K) (hK1 : K < 20) (r0 : 1000 ≤ r) (r1 : r ≤ 2000000) (s1 : 1 ≤ s) (s2 : s ≤ 1400) {α : Type} (kx : Nat → List Leaf → Option α) (kr : List Leaf → Option α) : ∀ (m n : Nat) (i a b v last x due ph pr pn : Int) (st : Bool), 1 ≤ i → i + m = 2 + K → PS 1400 10000 ph pr pn → s ≤ x → x ≤ 2199023255552 → 0 ≤ b → b ≤ i * 3000000 → a = b - (r + 1) → 0 ≤ v → v < 18446744073709551616 → m < n →
    CtrlNoLoss_11115_L kx kr n [a, b] [v, 1099511627776] last s x 0 r true b true st due 1400 10000 ph pr pn i 0 x r b n2 = kx 0 []
  | 0, n, i, a, b, v, last, x, due, ph, pr, pn, st, h0, h1, hp, hx0, hx1, hb0, hb1, ha, hv0, hv1, hn' => by
    obtain ⟨n, rfl⟩ : ∃ n', n = n' + 1 := ⟨n - 1, by omega⟩
    have e0 : addI .i64 2 K = 2 + K := addI_i (by unfold I63; omega)
    simp only [CtrlNoLoss_11115_L, CtrlNoLoss_11115_B, one_ev, hK, e0]
    rw [br_neg (by omega)]
  | m + 1, n, i, a, b, v, last, x, due, ph, pr, pn, st, h0, h1, hp, hx0, hx1, hb0, hb1, ha, hv0, hv1, hn' => by
    obtain ⟨n, rfl⟩ : ∃ n', n = n' + 1 := ⟨n - 1, by omega⟩
    have e0 : addI .i64 2 K = 2 + K := addI_i (by unfold I63; omega)
    have e1 : addI .i64 i 1 = i + 1 := addI_i (by unfold I63; omega)
    have e2 : addI .i64 r 1 = r + 1 := addI_i (by unfold I63; omega)
    have e3 : addI .i64 b (r + 1) = b + (r + 1) := addI_i (by unfold I63; omega)
    obtain ⟨h1', h2', h3', ok, p1, es⟩ := crSent_t (l0 := [a, b]) (l1 := [v, 1099511627776]) (last := last) (s := s) (loss := 0) (rtt := r) (db := b) (due := due) (t := wrapI .u64 i) (n := 0) (h := true) (bg := true) (st := st) hp hb0 (show b ≤ 4611686018427387904 by omega) (show U x by unfold U; omega) (bd := due) rfl
    obtain ⟨x', due', g1, g2, g3⟩ := hearK (b := b) (a := a) (v := v) (now := b + (r + 1)) (due := due) (bg := true) (st := st) s1 s2 hx0 hx1 r0 r1 hb0 (by omega) ha rfl hv0 hv1
    obtain ⟨h4', h5', h6', p2, eh⟩ := crHear_yes (g := [wrapI .u64 i]) (la := []) (lo := []) (last := x) (mk := 0) p1 (show 0 ≤ b + (r + 1) by omega) (show b + (r + 1) ≤ 4611686018427387904 by omega) (show U x by unfold U; omega) (show 0 ≤ r by omega) g3 (show U x' by unfold U; omega)
    have ih := clR hK hK0 hK1 r0 r1 s1 s2 kx kr m n (i + 1) b (b + (r + 1)) 1099511627776 x' x' due' h4' h5' h6' true (by omega) (by omega) p2 (by omega) g2 (by omega) (by rw [Int.add_mul]; omega) (by omega) (by omega) (by omega) (by omega)
    rw [← ih]
    simp only [CtrlNoLoss_11115_L, CtrlNoLoss_11115_B, one_ev, hK, e0]
    rw [br_pos (by omega)]
    simp only [cond_true] at es
    simp only [e1, e2, e3, es, out_ev, un_li_ev, un_i_ev, un_b_ev, un_nil_ev, decide_true, Bool.and_true, chk_t, one_ev]
    rw [show (decide ((↑(1 : Nat) : Int) = Int.ofNat (List.length [wrapI .u64 i])) && (decide ((0 : Int) = Int.ofNat (0 : Nat)) && decide ((0 : Int) = Int.ofNat (0 : Nat)))) = true from rfl, chk_t, eh]
    simp only [out_ev, un_li_ev, un_i_ev, un_b_ev, un_nil_ev, decide_true, Bool.and_true, chk_t, tfrc_Rate, one_ev]
    rw [br_neg (by omega)]
theorem and1 (x : Int) : andI .i64 x 1 = 0 ∨ andI .i64 x 1 = 1 := by
  unfold andI
  have h : (BitVec.ofInt (IntKind.i64).bits x &&& BitVec.ofInt (IntKind.i64).bits 1).toNat ≤ 1 := by
    rw [BitVec.toNat_and]
    exact Nat.and_le_right
  generalize (BitVec.ofInt (IntKind.i64).bits x &&& BitVec.ofInt (IntKind.i64).bits 1).toNat = k at h
  have : k = 0 ∨ k = 1 := by omega
  rcases this with rfl | rfl
  · left; decide
  · right; decide
theorem clR0 {n2 r K s : Int} (hK : remI .i64 (addI .i64 (remI .i64 n2 20) 20) 20 = K) (hK0 : 0 ≤ K) (hK1 : K < 20) (r0 : 1000 ≤ r) (r1 : r ≤ 2000000) (s1 : 1 ≤ s) (s2 : s ≤ 1400) {α : Type} (kx : Nat → List Leaf → Option α) (kr : List Leaf → Option α) (n : Nat) (hn : 100 < n) :
    CtrlNoLoss_11115_L kx kr n [0] [18446744073709551615] 0 s (64 * s) 0 0 false 0 false false 0 1400 10000 0 0 0 0 0 0 r 0 n2 = kx 0 [] := by
  obtain ⟨n, rfl⟩ : ∃ n', n = n' + 1 := ⟨n - 1, by omega⟩
  have e0 : addI .i64 2 K = 2 + K := addI_i (by unfold I63; omega)
  have e1 : addI .i64 0 1 = 1 := by decide
  have e2 : addI .i64 r 1 = r + 1 := addI_i (by unfold I63; omega)
  have e3 : addI .i64 0 (r + 1) = r + 1 := by rw [addI_i (by unfold I63; omega)]; omega
  have hp := PS.new (s := 1400) (k := 10000) (by omega) (by omega) (by omega) (by omega)
  have xU : U (64 * s) := by unfold U; omega
  obtain ⟨h1', h2', h3', ok, p1, es⟩ := crSent_t (l0 := [0]) (l1 := [18446744073709551615]) (last := 0) (s := s) (loss := 0) (rtt := 0) (db := 0) (due := 0) (t := wrapI .u64 0) (n := 0) (now := 0) (h := false) (bg := false) (st := false) hp (by omega) (by omega) xU (bd := 2000000) rfl
  obtain ⟨X, g1, g2, g0, g3⟩ := hear1 (s := s) (x := 64 * s) (due := 2000000) (v := 1099511627776) (p := 0) (r := r) (now := r + 1) (bg := true) (st := true) s1 s2 (by unfold U; omega) (by unfold U; omega) (by omega) (by omega) (by omega) (by omega)
  have hX := g0 rfl
  have hb := bgI_b s1 s2 (show 1 ≤ r by omega) (show r ≤ 4294967296 by omega)
  obtain ⟨t1, t2⟩ := one_t r0 r1 (now := r + 1) rfl (min 1099511627776 1125899906842624)
  rw [t1, t2, show min (1099511627776 : Int) 1125899906842624 = 1099511627776 by decide, show min (0 : Int) 4294967296 = 0 by decide] at g3
  obtain ⟨h4', h5', h6', p2, eh⟩ := crHear_yes (g := [wrapI .u64 0]) (la := []) (lo := []) (last := 64 * s) (mk := 0) p1 (show 0 ≤ r + 1 by omega) (show r + 1 ≤ 4611686018427387904 by omega) xU (show 0 ≤ r by omega) g3 (show U X by unfold U; omega)
  have ih := clR hK hK0 hK1 r0 r1 s1 s2 kx kr (1 + K).toNat n 1 0 (r + 1) 18446744073709551615 X X (waitD (r + 1) s r X) h4' h5' h6' true (by omega) (by omega) p2 g1 (by omega) (by omega) (by omega) (by omega) (by omega) (by omega) (by omega)
  rw [← ih]
  simp only [CtrlNoLoss_11115_L, CtrlNoLoss_11115_B, one_ev, hK, e0]
  rw [br_pos (by omega)]
  simp only [cond_false] at es
  simp only [e1, e2, e3, es, out_ev, un_li_ev, un_i_ev, un_b_ev, un_nil_ev, decide_true, Bool.and_true, chk_t, one_ev]
  rw [show (decide ((↑(1 : Nat) : Int) = Int.ofNat (List.length [wrapI .u64 0])) && (decide ((0 : Int) = Int.ofNat (0 : Nat)) && decide ((0 : Int) = Int.ofNat (0 : Nat)))) = true from rfl, chk_t, eh]
  simp only [out_ev, un_li_ev, un_i_ev, un_b_ev, un_nil_ev, decide_true, Bool.and_true, chk_t, tfrc_Rate, one_ev]
  rw [br_neg (by omega)]
set_option maxRecDepth 100000 in
theorem CtrlNoLoss_true (kind size r n2 : Int) : CtrlNoLoss kind size r n2 = some [.b true] := by
  obtain ⟨N, hN0, hN1, eN⟩ := rem_N (m := 1400) (by decide) (by decide) size
  obtain ⟨K, hK0, hK1, eK⟩ := rem_N (m := 20) (by decide) (by decide) n2
  obtain ⟨s, hs⟩ : ∃ s, s = 1 + N := ⟨_, rfl⟩
  have e1 : addI .i64 1 N = s := by rw [addI_i (show I63 (1 + N) by unfold I63; omega), hs]
  have s1 : 1 ≤ s := by omega
  have s2 : s ≤ 1400 := by omega
  obtain ⟨R, hR⟩ : ∃ R, R = 1000 + max 0 (min r 1048576) := ⟨_, rfl⟩
  have e2 : addI .i64 1000 (max 0 (min r 1048576)) = R := by rw [addI_i (by unfold I63; omega), hR]
  unfold CtrlNoLoss CtrlNoLoss_d
  simp only [one_ev, eN, e1, minI_eq, maxI_eq, e2, new_t s1 s2, out_ev, un_li_ev, un_i_ev, un_b_ev, un_nil_ev]
  rcases and1 kind with hk | hk
  · rw [hk, show addI .i64 2 0 = 2 by decide, br_eq rfl, new_win]
    simp only [out_ev, un_li_ev, un_i_ev, un_b_ev, un_nil_ev]
    have q := clW eK hK0 hK1 (show 1000 ≤ R by omega) (show R ≤ 2000000 by omega) (α := List Leaf) (fun i4042 r4043 => br (Nat.beq 0 i4042) (un_nil r4043 <| some [.b (true)]) none) (fun r4044 => un_b r4044 fun x4045 r4046 => un_nil r4046 <| some [.b (x4045)]) (2 + K).toNat top 0 0 0 0 0 0 0 0 3000000 false false false false (by omega) (by omega) (.inl ⟨rfl, rfl⟩) (by omega) (by omega) (by omega) (by unfold top; omega)
    refine Eq.trans ?_ (q.trans ?_)
    · rfl
    · simp only [beq00, br_t, un_nil_ev]
  · rw [hk, show addI .i64 2 1 = 3 by decide, br_ne (by omega), br_eq rfl, new_pace (by omega) (by omega) (by omega) (by omega)]
    simp only [out_ev, un_li_ev, un_i_ev, un_b_ev, un_nil_ev, decide_true, Bool.and_true, chk_t]
    rw [clR0 eK hK0 hK1 (show 1000 ≤ R by omega) (show R ≤ 2000000 by omega) s1 s2 _ _ _ (by unfold top; omega)]
    simp only [beq00, br_t, un_nil_ev]
end Go.Sx.T

