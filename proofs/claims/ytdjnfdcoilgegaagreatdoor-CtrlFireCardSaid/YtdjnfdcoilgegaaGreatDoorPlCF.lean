import Derived.Test.YtdjnfdcoilgegaaGreatDoorPlCF0
import Derived.Test.YtdjnfdcoilgegaaGreatDoorPlfCt
import Derived.Test.YtdjnfdcoilgegaaGreatDoorPlfWin
import Derived.Test.YtdjnfdcoilgegaaGreatDoorYCFSpec
set_option linter.all false
namespace Go.Sx.T
open Go Go.Sx
theorem cfW {n2 K size sm sp : Int} {a : Bool} (hK : remI .i64 (addI .i64 (remI .i64 n2 6) 6) 6 = K) (hK0 : 0 ≤ K) (hK1 : K < 6) : ∀ (m n : Nat) (i now c sl cnt hn ln due rto : Int) (hi li : Bool), 0 ≤ i → i + m = K + 1 → (0 < m ∨ c = 1) → 1 ≤ c → c ≤ 3 → 1 ≤ rto → rto ≤ 64000000 → 0 ≤ now → now ≤ 2199023255552 + i * 64000000 → m < n →
    ∃ sl' cnt' hn' hi' ln' li' due' rto', ∀ {α : Type} (kx : Nat → List Leaf → Option α) (kr : List Leaf → Option α), CtrlFire_13084_L kx kr n c sl 0 cnt hn hi ln li false due a sm sp rto i now n2 size = kx 0 [.i 1, .i sl', .i 0, .i cnt', .i hn', .b hi', .i ln', .b li', .b false, .i due', .b a, .i sm, .i sp, .i rto', .i n2, .i size]
  | 0, n, i, now, c, sl, cnt, hn, ln, due, rto, hi, li, h0, h1, hc, c0, c1, r0, r1, n0, n1, hn' => by
    obtain ⟨n, rfl⟩ : ∃ n', n = n' + 1 := ⟨n - 1, by omega⟩
    obtain rfl : c = 1 := by omega
    refine ⟨sl, cnt, hn, hi, ln, li, due, rto, fun kx kr => ?_⟩
    simp only [CtrlFire_13084_L, CtrlFire_13084_B, one_ev, hK]
    rw [br_neg (by omega)]
  | m + 1, n, i, now, c, sl, cnt, hn, ln, due, rto, hi, li, h0, h1, hc, c0, c1, r0, r1, n0, n1, hn' => by
    obtain ⟨n, rfl⟩ : ∃ n', n = n' + 1 := ⟨n - 1, by omega⟩
    have e1 : addI .i64 i 1 = i + 1 := addI_i (by unfold I63; omega)
    have hd : now + rto ≤ 2199023255552 + (i + 1) * 64000000 := by rw [Int.add_mul]; omega
    have hbig : now + rto ≤ 4611686018427387904 := by omega
    have e2 : subI .i64 (now + rto) 1 = now + rto - 1 := subI_i (by unfold I63; omega)
    have es := sent_go0 (slow := sl) (count := cnt) (hn := hn) (ln := ln) (due := due) (sm := sm) (sp := sp) (n := wrapI .u64 i) (hi := hi) (li := li) (a := a) (show 0 < c by omega) (by omega) (by omega) (show 0 ≤ rto by omega) r1 n0 (by omega)
    have ef := fire_no (cwnd := c) (slow := sl) (pipe := 0 + 1) (count := cnt) (hn := hn) (ln := sqI (wrapI .u64 i)) (due := now + rto) (sm := sm) (sp := sp) (rto := rto) (now := now + rto - 1) (hi := hi) (li := true) (a := a) (by omega)
    have ey := fire_yes (cwnd := c) (slow := sl) (pipe := 0 + 1) (count := cnt) (hn := hn) (ln := sqI (wrapI .u64 i)) (due := now + rto) (sm := sm) (sp := sp) (rto := rto) (now := now + rto) (hi := hi) (a := a) (by omega) (by omega) (by omega) (by omega) r1
    obtain ⟨sl', cnt', hn'', hi', ln', li', due', rto', ih⟩ := cfW (size := size) (sm := sm) (sp := sp) (a := a) hK hK0 hK1 m n (i + 1) (now + rto) 1 (max (c / 2) 1) 0 (sqI (wrapI .u64 i)) (sqI (wrapI .u64 i)) (now + rto) (min (2 * rto) 64000000) true true (by omega) (by omega) (.inr rfl) (by omega) (by omega) (by omega) (by omega) (by omega) hd (by omega)
    refine ⟨sl', cnt', hn'', hi', ln', li', due', rto', fun kx kr => ?_⟩
    rw [← ih kx kr]
    simp only [CtrlFire_13084_L, CtrlFire_13084_B, one_ev, hK]
    rw [br_pos (by omega)]
    simp only [cw_Sent, cw_Due, cw_Fire, win_Due, es, e1, e2, out_ev, un_i_ev, un_b_ev, un_nil_ev, one_ev, Bool.not_true, br_f]
    rw [br_neg (by omega)]
    simp only [ef, out_ev, un_i_ev, un_b_ev, un_nil_ev, br_f, ey, Bool.not_true]
/-- A rate's clock that does not run. -/
theorem fire0_off {l0 l1 : List Int} {s x loss r db due t : Int} {h bg : Bool} : tfrc_Fire l0 l1 s x loss r h db bg false due t = some [.li l0, .li l1, .i s, .i x, .i loss, .i r, .b h, .i db, .b bg, .b false, .i due, .b false] := by
  unfold tfrc_Fire
  simp only [Bool.not_false, br_t, chk_tt, chk_TT]
theorem crFire_t {l0 l1 : List Int} {last s x x' loss rtt db due due' ps pk ph pr pn now : Int} {h bg st st' ok : Bool} (p : PS ps pk ph pr pn) (h0 : 0 ≤ now) (h1 : now ≤ 4611686018427387904) (hx : U x) (hx' : U x')
    (hf : tfrc_Fire l0 l1 s x loss rtt h db bg st due now = some [.li l0, .li l1, .i s, .i x', .i loss, .i rtt, .b h, .i db, .b bg, .b st', .i due', .b ok]) :
    ∃ ph' pr' pn', PS ps pk ph' pr' pn' ∧ cr_Fire l0 l1 last s x loss rtt h db bg st due ps pk ph pr pn now = some [.li l0, .li l1, .i x', .i s, .i x', .i loss, .i rtt, .b h, .i db, .b bg, .b st', .i due', .i ps, .i pk, .i ph', .i pr', .i pn', .b ok] := by
  obtain ⟨a, b, c, q1, q2⟩ := turns_t (l0 := l0) (l1 := l1) (last := last) (s := s) (loss := loss) (rtt := rtt) (db := db) (due := due) (h := h) (bg := bg) (st := st) p h0 h1 hx
  obtain ⟨a', b', c', q3, q4⟩ := turns_t (l0 := l0) (l1 := l1) (last := x) (s := s) (loss := loss) (rtt := rtt) (db := db) (due := due') (h := h) (bg := bg) (st := st') q1 h0 h1 hx'
  refine ⟨a', b', c', q3, ?_⟩
  unfold cr_Fire
  simp only [q2, hf, q4, out_ev, un_li_ev, un_i_ev, un_b_ev, un_nil_ev, decide_true, Bool.and_true, chk_t]
theorem due_t {l0 l1 : List Int} {last s x loss rtt db due ps pk ph pr pn : Int} {h bg : Bool} : cr_Due l0 l1 last s x loss rtt h db bg true due ps pk ph pr pn = some [.li l0, .li l1, .i last, .i s, .i x, .i loss, .i rtt, .b h, .i db, .b bg, .b true, .i due, .i ps, .i pk, .i ph, .i pr, .i pn, .i due, .b true] := by
  unfold cr_Due tfrc_Due
  simp only [Bool.not_true, br_f, out_ev, un_i_ev, un_b_ev, un_nil_ev, one_ev, decide_true, Bool.and_true, chk_t]
theorem due_f {l0 l1 : List Int} {last s x loss rtt db due ps pk ph pr pn : Int} {h bg : Bool} : cr_Due l0 l1 last s x loss rtt h db bg false due ps pk ph pr pn = some [.li l0, .li l1, .i last, .i s, .i x, .i loss, .i rtt, .b h, .i db, .b bg, .b false, .i due, .i ps, .i pk, .i ph, .i pr, .i pn, .i 0, .b false] := by
  unfold cr_Due tfrc_Due
  simp only [Bool.not_false, br_t, out_ev, un_i_ev, un_b_ev, un_nil_ev, one_ev, decide_true, Bool.and_true, chk_t]
theorem w_bd {s x : Int} (h1 : 1 ≤ s) (h2 : s ≤ 1400) (hx : s ≤ x) (hx1 : x ≤ 64 * s) : 1 ≤ mdI (128 * s) 1000000 x ∧ mdI (128 * s) 1000000 x ≤ 128000000 := by
  unfold mdI
  rw [if_neg (by omega)]
  have a : 128 * s * 1000000 / x ≤ 128000000 := by
    apply Int.ediv_le_of_le_mul (by omega)
    omega
  have b : 1 ≤ 128 * s * 1000000 / x := Int.le_ediv_of_mul_le (by omega) (by omega)
  omega
theorem pw {s : Int} (s1 : 1 ≤ s) (e : Nat) (he : e ≤ 6) : s ≤ s * 2 ^ e ∧ s * 2 ^ e ≤ 64 * s := by
  have : e = 0 ∨ e = 1 ∨ e = 2 ∨ e = 3 ∨ e = 4 ∨ e = 5 ∨ e = 6 := by omega
  rcases this with rfl | rfl | rfl | rfl | rfl | rfl | rfl <;> constructor <;> omega
set_option maxRecDepth 100000 in
theorem cfR {n2 K s : Int} (hK : remI .i64 (addI .i64 (remI .i64 n2 6) 6) 6 = K) (hK0 : 0 ≤ K) (hK1 : K < 6) (s1 : 1 ≤ s) (s2 : s ≤ 1400) : ∀ (m n e : Nat) (i now last x due d ph pr pn : Int) (bg st : Bool), 0 ≤ i → i + m = K + 1 → i + e = 6 → x = s * 2 ^ e → PS 1400 10000 ph pr pn → 0 ≤ now → now ≤ 2199023255552 + i * 128000000 → (0 < m → d = (if bg then due else now + 2000000) ∧ now < d ∧ d ≤ now + 128000000 ∧ (bif bg then st else true) = true) → m < n →
    ∃ last' due' ph' pr' pn' bg' st' x', (∀ e : Nat, K + 1 + e = 6 → x' = s * 2 ^ e) ∧ ∀ {α : Type} (kx : Nat → List Leaf → Option α) (kr : List Leaf → Option α), CtrlFire_13088_L kx kr n [0] [18446744073709551615] last s x 0 0 false 0 bg st due 1400 10000 ph pr pn i now n2 s = kx 0 [.li [0], .li [18446744073709551615], .i last', .i s, .i x', .i 0, .i 0, .b false, .i 0, .b bg', .b st', .i due', .i 1400, .i 10000, .i ph', .i pr', .i pn', .i n2, .i s]
  | 0, n, e, i, now, last, x, due, d, ph, pr, pn, bg, st, h0, h1, he, hx, hp, n0, n1, hd, hn => by
    obtain ⟨n, rfl⟩ : ∃ n', n = n' + 1 := ⟨n - 1, by omega⟩
    refine ⟨last, due, ph, pr, pn, bg, st, x, ?_, fun kx kr => ?_⟩
    · intro e' he'
      obtain rfl : e = e' := by omega
      exact hx
    · simp only [CtrlFire_13088_L, CtrlFire_13088_B, one_ev, hK]
      rw [br_neg (by omega)]
      simp only [decide_true, Bool.and_true, chk_t]
  | m + 1, n, e, i, now, last, x, due, d, ph, pr, pn, bg, st, h0, h1, he, hx, hp, n0, n1, hd, hn => by
    obtain ⟨n, rfl⟩ : ∃ n', n = n' + 1 := ⟨n - 1, by omega⟩
    obtain ⟨e, rfl⟩ : ∃ e', e = e' + 1 := ⟨e - 1, by omega⟩
    obtain ⟨d1, d2, d3, d4⟩ := hd (by omega)
    obtain ⟨y, hy⟩ : ∃ y, y = s * 2 ^ e := ⟨_, rfl⟩
    have hxy : x = 2 * y := by rw [hx, hy, Int.pow_succ]; simp only [Int.mul_comm, Int.mul_left_comm]
    obtain ⟨y1, y2⟩ := pw s1 e (by omega)
    obtain ⟨x1, x2⟩ := pw s1 (e + 1) (by omega)
    rw [← hy] at y1 y2
    rw [← hx] at x1 x2
    have hq : x / 2 = y := by omega
    have xU : U x := by unfold U; omega
    have yU : U y := by unfold U; omega
    have e1 : addI .i64 i 1 = i + 1 := addI_i (by unfold I63; omega)
    have e2 : subI .i64 d 1 = d - 1 := subI_i (by unfold I63; omega)
    obtain ⟨w, hw⟩ : ∃ w, w = mdI (128 * s) 1000000 y := ⟨_, rfl⟩
    obtain ⟨w1, w2⟩ := w_bd s1 s2 y1 y2
    rw [← hw] at w1 w2
    obtain ⟨a1, b1, c1, ok, p1, es⟩ := crSent_t (l0 := [0]) (l1 := [18446744073709551615]) (last := last) (s := s) (loss := 0) (rtt := 0) (db := 0) (due := due) (t := wrapI .u64 i) (n := 0) (h := false) (bg := bg) (st := st) hp n0 (show now ≤ 4611686018427387904 by omega) xU (bd := d) d1
    rw [d4] at es
    obtain ⟨a2, b2, c2, p2, ef⟩ := crFire_t (last := x) p1 (show 0 ≤ d - 1 by omega) (show d - 1 ≤ 4611686018427387904 by omega) xU xU (fire0_early (l0 := [0]) (l1 := [18446744073709551615]) (s := s) (x := x) (loss := 0) (r := 0) (db := 0) (h := false) (bg := true) (due := d) (t := d - 1) (by omega) (by omega))
    have hf := fire0_due (l0 := [0]) (l1 := [18446744073709551615]) (s := s) (x := x) (loss := 0) (db := 0) (bg := true) (due := d) (t := d) s1 s2 (by omega) (by omega) (by omega) (by omega) (by omega)
    rw [hq, ← hw] at hf
    obtain ⟨a3, b3, c3, p3, ey⟩ := crFire_t (last := x) p2 (show 0 ≤ d by omega) (show d ≤ 4611686018427387904 by omega) xU yU hf
    obtain ⟨last', due', ph', pr', pn', bg', st', x', g1, ih⟩ := cfR hK hK0 hK1 s1 s2 m n e (i + 1) d y y (d + w) (d + w) a3 b3 c3 true (decide (y > s)) (by omega) (by omega) (by omega) hy p3 (by omega) (by rw [Int.add_mul]; omega) (by
      intro hm
      refine ⟨rfl, by omega, by omega, ?_⟩
      simp only [cond_true]
      apply decide_eq_true
      obtain ⟨e, rfl⟩ : ∃ e', e = e' + 1 := ⟨e - 1, by omega⟩
      obtain ⟨z1, z2⟩ := pw s1 e (by omega)
      have hyz : y = 2 * (s * 2 ^ e) := by rw [hy, Int.pow_succ]; simp only [Int.mul_comm, Int.mul_left_comm]
      omega) (by omega)
    refine ⟨last', due', ph', pr', pn', bg', st', x', g1, fun kx kr => ?_⟩
    rw [← ih kx kr]
    simp only [CtrlFire_13088_L, CtrlFire_13088_B, one_ev, hK]
    rw [br_pos (by omega)]
    simp only [es, due_t, e1, e2, out_ev, un_li_ev, un_i_ev, un_b_ev, un_nil_ev, decide_true, Bool.and_true, chk_t, one_ev, Bool.not_true, br_f]
    rw [br_neg (by omega)]
    simp only [ef, ey, out_ev, un_li_ev, un_i_ev, un_b_ev, un_nil_ev, decide_true, Bool.and_true, chk_t, Bool.not_true, br_f]
theorem and1 (x : Int) : andI .i64 x 1 = 0 ∨ andI .i64 x 1 = 1 := by
  unfold andI
  have h : (BitVec.ofInt (IntKind.i64).bits x &&& BitVec.ofInt (IntKind.i64).bits 1).toNat ≤ 1 := by
    rw [BitVec.toNat_and]
    exact Nat.and_le_right
  generalize (BitVec.ofInt (IntKind.i64).bits x &&& BitVec.ofInt (IntKind.i64).bits 1).toNat = k at h
  have : k = 0 ∨ k = 1 := by omega
  rcases this with rfl | rfl
  · left; decide
  · right; decide
theorem last_t {s K : Int} (s1 : 1 ≤ s) (s2 : s ≤ 1400) (hK0 : 0 ≤ K) (hK1 : K < 6) {x : Int} (h : ∀ e : Nat, K + 1 + e = 6 → x = s * 2 ^ e) : wrapI .u64 (max s (shrI .i64 (64 * s) (K + 1))) = x := by
  have hk : K = 0 ∨ K = 1 ∨ K = 2 ∨ K = 3 ∨ K = 4 ∨ K = 5 := by omega
  have sh : ∀ n : Nat, n ≤ 64 → shrI .i64 (64 * s) (n : Int) = 64 * s / 2 ^ n := fun n hn => shrI_u .i64 rfl (64 * s) n hn
  rcases hk with rfl | rfl | rfl | rfl | rfl | rfl
  · rw [h 5 (by omega), show (0 + 1 : Int) = ((1 : Nat) : Int) from rfl, sh 1 (by omega), wrapI_u]; omega
  · rw [h 4 (by omega), show (1 + 1 : Int) = ((2 : Nat) : Int) from rfl, sh 2 (by omega), wrapI_u]; omega
  · rw [h 3 (by omega), show (2 + 1 : Int) = ((3 : Nat) : Int) from rfl, sh 3 (by omega), wrapI_u]; omega
  · rw [h 2 (by omega), show (3 + 1 : Int) = ((4 : Nat) : Int) from rfl, sh 4 (by omega), wrapI_u]; omega
  · rw [h 1 (by omega), show (4 + 1 : Int) = ((5 : Nat) : Int) from rfl, sh 5 (by omega), wrapI_u]; omega
  · rw [h 0 (by omega), show (5 + 1 : Int) = ((6 : Nat) : Int) from rfl, sh 6 (by omega), wrapI_u]; omega
theorem beq00' {α : Type} (a b : Option α) : br (Nat.beq 0 0) a b = a := rfl
set_option maxRecDepth 100000 in
theorem CtrlFire_true (kind size n2 : Int) : CtrlFire kind size n2 = some [.b true] := by
  obtain ⟨N, hN0, hN1, eN⟩ := rem_N (m := 1400) (by decide) (by decide) size
  obtain ⟨K, hK0, hK1, eK⟩ := rem_N (m := 6) (by decide) (by decide) n2
  obtain ⟨s, hs⟩ : ∃ s, s = 1 + N := ⟨_, rfl⟩
  have e1 : addI .i64 1 N = s := by rw [addI_i (show I63 (1 + N) by unfold I63; omega), hs]
  have s1 : 1 ≤ s := by omega
  have s2 : s ≤ 1400 := by omega
  unfold CtrlFire CtrlFire_d
  simp only [one_ev, eN, e1, new_t s1 s2, out_ev, un_li_ev, un_i_ev, un_b_ev, un_nil_ev]
  rcases and1 kind with hk | hk
  · have f1 : cw_Fire 3 1000000 0 0 0 false 0 false false 0 false 0 0 3000000 1099511627776 = some [.i 3, .i 1000000, .i 0, .i 0, .i 0, .b false, .i 0, .b false, .b false, .i 0, .b false, .i 0, .i 0, .i 3000000, .b false] := by kernel_rfl
    have f2 : cw_Due 3 1000000 0 0 0 false 0 false false 0 false 0 0 3000000 = some [.i 3, .i 1000000, .i 0, .i 0, .i 0, .b false, .i 0, .b false, .b false, .i 0, .b false, .i 0, .i 0, .i 3000000, .i 0, .b false] := by kernel_rfl
    rw [hk, show addI .i64 2 0 = 2 by decide, br_eq rfl, new_win]
    simp only [out_ev, un_li_ev, un_i_ev, un_b_ev, un_nil_ev, f1, f2, br_f, one_ev]
    obtain ⟨sl', cnt', hn', hi', ln', li', due', rto', q⟩ := cfW (size := s) (sm := 0) (sp := 0) (a := false) eK hK0 hK1 (K + 1).toNat top 0 1099511627776 3 1000000 0 0 0 0 3000000 false false (by omega) (by omega) (.inl (by omega)) (by omega) (by omega) (by omega) (by omega) (by omega) (by omega) (by unfold top; omega)
    rw [q]
    simp only [beq00', un_i_ev, un_b_ev, un_nil_ev, win_Cwnd, win_Pipe, out_ev]
    rfl
  · obtain ⟨a, b, c, p, ef⟩ := crFire_t (last := 0) (s := s) (x := 64 * s) (now := 1099511627776) (PS.new (s := 1400) (k := 10000) (by omega) (by omega) (by omega) (by omega)) (by omega) (by omega) (show U (64 * s) by unfold U; omega) (show U (64 * s) by unfold U; omega) (fire0_off (l0 := [0]) (l1 := [18446744073709551615]) (loss := 0) (r := 0) (h := false) (db := 0) (bg := false) (due := 0))
    rw [hk, show addI .i64 2 1 = 3 by decide, br_ne (by omega), br_eq rfl, new_pace (by omega) (by omega) (by omega) (by omega)]
    simp only [out_ev, un_li_ev, un_i_ev, un_b_ev, un_nil_ev, decide_true, Bool.and_true, chk_t, ef, due_f, br_f, one_ev]
    obtain ⟨last', due', ph', pr', pn', bg', st', x', g1, q⟩ := cfR eK hK0 hK1 s1 s2 (K + 1).toNat top 6 0 1099511627776 (64 * s) (64 * s) 0 (1099511627776 + 2000000) a b c false false (by omega) (by omega) (by omega) (by omega) p (by omega) (by omega) (fun _ => ⟨rfl, by omega, by omega, rfl⟩) (by unfold top; omega)
    have e2 : mulI .i64 64 s = 64 * s := mulI_i (by unfold I63; omega)
    have e3 : addI .i64 K 1 = K + 1 := addI_i (by unfold I63; omega)
    rw [q]
    simp only [beq00', un_li_ev, un_i_ev, un_b_ev, un_nil_ev, decide_true, Bool.and_true, chk_t, tfrc_Rate, out_ev, one_ev, eK, e2, e3, decide_eq_true (show 0 ≤ K + 1 by omega), maxI_eq, last_t s1 s2 hK0 hK1 g1, beq_self_eq_true]
end Go.Sx.T

