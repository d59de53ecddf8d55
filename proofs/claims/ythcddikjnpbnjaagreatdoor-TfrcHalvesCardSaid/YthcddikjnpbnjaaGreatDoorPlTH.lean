import Derived.Test.YthcddikjnpbnjaaGreatDoorPlTg
import Derived.Test.YthcddikjnpbnjaaGreatDoorYTHSpec
set_option linter.all false
namespace Go.Sx.T
open Go Go.Sx
theorem wrapU (x : Int) : U (IntKind.wrap .u64 x) := by rw [wrap_u64]; unfold U; omega
theorem mdU {a b c : Int} (ha : U a) (hb : U b) (hc : U c) : ∃ e, U e ∧ fix_MulDiv a b c = some [.i e] := ⟨_, mdI_U _ _ _ ha.1 hb.1 hc.1, fix_MulDiv_t ha hb hc⟩
theorem clU (n lo hi : Int) (h0 : 0 ≤ lo) (h1 : lo ≤ hi) (h2 : hi < 18446744073709551616) : U (minI (maxI n lo) hi) ∧ lo ≤ minI (maxI n lo) hi := by rw [minI_eq, maxI_eq]; unfold U; omega
theorem eqn_F_U (n : Int) : ∃ e, U e ∧ eqn_F n = some [.i e] := by
  obtain ⟨m, hm⟩ : ∃ m, m = minI (maxI n 1) 4294967296 := ⟨_, rfl⟩
  have hmU := (clU n 1 4294967296 (by omega) (by omega) (by omega)).1
  rw [← hm] at hmU
  obtain ⟨a, ha, ea⟩ := mdU (a := 8589934592) (b := m) (c := 3) (by unfold U; omega) hmU (by unfold U; omega)
  obtain ⟨a1, _, ha1, ea1⟩ := fix_Sqrt_t ha
  obtain ⟨b, hb, eb⟩ := mdU (a := 12884901888) (b := m) (c := 8) (by unfold U; omega) hmU (by unfold U; omega)
  obtain ⟨b1, _, hb1, eb1⟩ := fix_Sqrt_t hb
  obtain ⟨c, hc, ec⟩ := mdU (a := mulI .u64 32 m) (b := m) (c := 4294967296) (wrapU _) hmU (by unfold U; omega)
  obtain ⟨d, hd, ed⟩ := mdU (a := b1) (b := m) (c := 4294967296) hb1 hmU (by unfold U; omega)
  obtain ⟨e, he, ee⟩ := mdU (a := d) (b := addI .u64 4294967296 c) (c := 4294967296) hd (wrapU _) (by unfold U; omega)
  refine ⟨addI .u64 a1 (mulI .u64 12 e), wrapU _, ?_⟩
  unfold eqn_F
  simp only [one_ev, ← hm, ea, ea1, eb, eb1, ec, ed, ee, out_ev, un_i_ev, un_nil_ev]
theorem eqn_Rate_U (s r n : Int) : ∃ e, U e ∧ eqn_Rate s r n = some [.i e] := by
  obtain ⟨f, hf, ef⟩ := eqn_F_U n
  obtain ⟨a, ha, ea⟩ := mdU (a := mulI .u64 64000000 (minI (maxI s 1) 65535)) (b := 4294967296) (c := f) (wrapU _) (by unfold U; omega) hf
  have hr := clU r 1 4294967296 (by omega) (by omega) (by omega)
  refine ⟨quoI .u64 a (minI (maxI r 1) 4294967296), wrapU _, ?_⟩
  unfold eqn_Rate
  simp only [one_ev, ef, ea, out_ev, un_i_ev, un_nil_ev]
  rw [chk_pos (by omega)]
theorem idx2 (r v : Int) : set_IndexFunc [0, 1000] [18446744073709551615, v] 1000 r = br (decide (0 < subI .i64 1000 (mulI .i64 2 r))) (some [.i 1000, .i r, .i 0]) (br (decide (1000 < subI .i64 1000 (mulI .i64 2 r))) (some [.i 1000, .i r, .i 1]) (some [.i 1000, .i r, .i (-1)])) := by kernel_rfl
theorem del2 (r v : Int) {α : Type} (kx : Nat → List Leaf → Option α) (kr : List Leaf → Option α) : set_DeleteFunc_5_L kx kr top [0, 1000] [18446744073709551615, v] 1000 r 1 0 = br (!decide (1000 < subI .i64 1000 (mulI .i64 2 r))) (kx 0 [.li [1000, 1000], .li [v, v], .i 1000, .i r, .i 1]) (kx 0 [.li [0, 1000], .li [18446744073709551615, v], .i 1000, .i r, .i 0]) := by kernel_rfl
theorem updH {r : Int} (v : Int) (h1 : 1 ≤ r) (h2 : r ≤ 4294967296) : rset_Update [0] [18446744073709551615] v 1000 r = some [.li [1000], .li [v]] ∨ rset_Update [0] [18446744073709551615] v 1000 r = some [.li [0, 1000], .li [18446744073709551615, v]] := by
  have e1 : minI (maxI r 0) 1099511627776 = r := by rw [minI_eq, maxI_eq]; omega
  have e2 : mulI .i64 2 r = 2 * r := mulI_i (by unfold I63; omega)
  have e3 : subI .i64 1000 (2 * r) = 1000 - 2 * r := subI_i (by unfold I63; omega)
  have hn : ¬ (1000 : Int) < 1000 - 2 * r := by omega
  by_cases hc : (0 : Int) < 1000 - 2 * r
  · left
    have d : set_DeleteFunc ([0] ++ [1000]) ([18446744073709551615] ++ [v]) 1000 r = some [.li [1000], .li [v], .i 1000, .i r] := by
      show set_DeleteFunc [0, 1000] [18446744073709551615, v] 1000 r = _
      unfold set_DeleteFunc set_DeleteFunc_d
      rw [idx2, e2, e3, br_pos hc]
      simp only [out_ev, un_i_ev, un_nil_ev, one_ev]
      rw [show addI .i64 0 1 = 1 by decide, del2, e2, e3, decide_eq_false hn]
      kernel_rfl
    unfold rset_Update
    simp only [one_ev, show minI (maxI 1000 0) 4611686018427387904 = 1000 by decide, e1]
    rw [d]
    rfl
  · right
    have d : set_DeleteFunc ([0] ++ [1000]) ([18446744073709551615] ++ [v]) 1000 r = some [.li [0, 1000], .li [18446744073709551615, v], .i 1000, .i r] := by
      show set_DeleteFunc [0, 1000] [18446744073709551615, v] 1000 r = _
      unfold set_DeleteFunc set_DeleteFunc_d
      rw [idx2, e2, e3, br_neg hc, br_neg hn]
      kernel_rfl
    unfold rset_Update
    simp only [one_ev, show minI (maxI 1000 0) 4611686018427387904 = 1000 by decide, e1]
    rw [d]
    rfl
/-- The first hearing, whatever is lost. -/
theorem hearH {s x due v p sample : Int} {bg st : Bool} (s1 : 1 ≤ s) (s2 : s ≤ 1400) (hv : U v) (hp : U p) : ∃ L0 L1 X r, s ≤ X ∧ X < 18446744073709551616 ∧ 1 ≤ r ∧ r ≤ 4294967296 ∧
    tfrc_Hear [0] [18446744073709551615] s x 0 0 false 0 bg st due 1000 sample v p false =
      some [.li L0, .li L1, .i s, .i X, .i (min p 4294967296), .i r, .b true, .i 1000, .b bg, .b true, .i (waitD 1000 s r X)] := by
  obtain ⟨r, hr⟩ : ∃ r, r = min (max sample 1) 4294967296 := ⟨_, rfl⟩
  have h3 : 1 ≤ r := by omega
  have h4 : r ≤ 4294967296 := by omega
  have hb := bgI_b s1 s2 h3 h4
  obtain ⟨V, hV⟩ : ∃ V, V = min v 1125899906842624 := ⟨_, rfl⟩
  obtain ⟨Q, hQ⟩ : ∃ Q, Q = min p 4294967296 := ⟨_, rfl⟩
  unfold U at hv hp
  obtain ⟨L0, L1, m, hm, hlim⟩ : ∃ L0 L1 m, U m ∧ tfrc_limit [0] [18446744073709551615] s (bgI s r) 0 r true 1000 bg st due 1000 V Q false = some [.li L0, .li L1, .i s, .i (bgI s r), .i 0, .i r, .b true, .i 1000, .b bg, .b st, .i due, .i m] := by
    rcases updH V h3 h4 with hu | hu
    · refine ⟨[1000], [V], satM 2 (maxI 0 V), satM_U (by omega) (by rw [maxI_eq]; omega), ?_⟩
      unfold tfrc_limit
      simp only [br_f, chk_tt, chk_TT, hu, max1, out_ev, un_li_ev, un_i_ev, un_nil_ev]
      rw [fix_Mul_s (show U 2 by unfold U; omega) (show U (maxI 0 V) by rw [maxI_eq]; unfold U; omega)]
      simp only [chk_tt, chk_TT, out_ev, un_i_ev, un_nil_ev]
    · refine ⟨[0, 1000], [18446744073709551615, V], satM 2 (maxI (maxI 0 18446744073709551615) V), satM_U (by omega) (by rw [maxI_eq, maxI_eq]; omega), ?_⟩
      unfold tfrc_limit
      simp only [br_f, chk_tt, chk_TT, hu, max2, out_ev, un_li_ev, un_i_ev, un_nil_ev]
      rw [fix_Mul_s (show U 2 by unfold U; omega) (show U (maxI (maxI 0 18446744073709551615) V) by rw [maxI_eq, maxI_eq]; unfold U; omega)]
      simp only [chk_tt, chk_TT, out_ev, un_i_ev, un_nil_ev]
  have e4 : wrapI .u64 r = r := by rw [wrapI_u]; omega
  unfold U at hm
  by_cases hQ0 : Q > 0
  · obtain ⟨e, he, ee⟩ := eqn_Rate_U s r Q
    unfold U at he
    refine ⟨L0, L1, max (min e m) s, r, by omega, by omega, h3, h4, ?_⟩
    unfold tfrc_Hear
    simp only [one_ev, maxI_eq, minI_eq, ← hr, ← hV, ← hQ, Bool.not_false, br_t, chk_tt, chk_TT, show min (max (1000 : Int) 0) 4611686018427387904 = 1000 by omega, begin_t s1 s2 h3 h4, out_ev, un_i_ev, un_nil_ev, hlim, un_li_ev, un_b_ev]
    rw [br_pos hQ0]
    simp only [one_ev, e4, ee, out_ev, un_i_ev, un_nil_ev, maxI_eq, minI_eq, chk_tt, chk_TT]
    rw [waits_t s1 s2 h3 h4 (by omega) (by omega) (by omega) (by omega)]
    simp only [out_ev, un_li_ev, un_i_ev, un_b_ev, un_nil_ev, chk_tt, chk_TT]
  · refine ⟨L0, L1, max (bgI s r) s, r, by omega, by omega, h3, h4, ?_⟩
    unfold tfrc_Hear
    simp only [one_ev, maxI_eq, minI_eq, ← hr, ← hV, ← hQ, Bool.not_false, br_t, chk_tt, chk_TT, show min (max (1000 : Int) 0) 4611686018427387904 = 1000 by omega, begin_t s1 s2 h3 h4, out_ev, un_i_ev, un_nil_ev, hlim, un_li_ev, un_b_ev]
    rw [br_neg hQ0]
    simp only [Bool.not_true, br_f, one_ev, maxI_eq, chk_tt, chk_TT]
    rw [waits_t s1 s2 h3 h4 (by omega) (by omega) (by omega) (by omega)]
    simp only [out_ev, un_li_ev, un_i_ev, un_b_ev, un_nil_ev, chk_tt, chk_TT]
theorem wait_b {now s r x : Int} (h1 : 1 ≤ s) (h2 : s ≤ 1400) (h3 : 1 ≤ r) (h4 : r ≤ 4294967296) (hx : s ≤ x) : now < waitD now s r x ∧ waitD now s r x ≤ now + 17179869184 := by
  have := waitM_b h1 h2 hx
  unfold waitD
  omega
theorem fire_early {l0 l1 : List Int} {s x loss r db due t : Int} {h bg st : Bool} (ht : t < due) : tfrc_Fire l0 l1 s x loss r h db bg st due t = some [.li l0, .li l1, .i s, .i x, .i loss, .i r, .b h, .i db, .b bg, .b st, .i due, .b false] := by
  unfold tfrc_Fire
  cases st
  · simp only [Bool.not_false, br_t, chk_tt, chk_TT]
  · simp only [Bool.not_true, br_f, one_ev, minI_eq]
    rw [br_pos (by omega)]
    simp only [chk_tt, chk_TT]
theorem fire_due {l0 l1 : List Int} {s x loss r db due : Int} {bg : Bool} (s1 : 1 ≤ s) (s2 : s ≤ 1400) (h3 : 1 ≤ r) (h4 : r ≤ 4294967296) (hx0 : 0 ≤ x) (hxU : x < 18446744073709551616) (hd0 : 0 ≤ due) (hd1 : due ≤ 4611686018427387904) :
    ∃ L0 L1, tfrc_Fire l0 l1 s x loss r true db bg true due due = some [.li L0, .li L1, .i s, .i (max (x / 2) s), .i loss, .i r, .b true, .i db, .b bg, .b (decide (max (x / 2) s > s)), .i (waitD due s r (max (x / 2) s)), .b true] := by
  have e1 : quoI .u64 x 2 = x / 2 := quoI_u ⟨hx0, hxU⟩ (by omega)
  refine ⟨[clT due], [quoI .u64 (addI .u64 (max (x / 2) s) 1) 2], ?_⟩
  unfold tfrc_Fire
  simp only [Bool.not_true, br_f, one_ev, minI_eq]
  rw [br_neg (by omega)]
  simp only [e1, maxI_eq, br_t, only_t, out_ev, un_li_ev, un_nil_ev, chk_tt, chk_TT]
  rw [waits_t s1 s2 h3 h4 (by omega) (by omega) hd0 hd1]
  simp only [out_ev, un_li_ev, un_i_ev, un_b_ev, un_nil_ev, chk_tt, chk_TT]
/-- The rounds: j of them are enough. -/
theorem th10 {s r loss : Int} (s1 : 1 ≤ s) (s2 : s ≤ 1400) (h3 : 1 ≤ r) (h4 : r ≤ 4294967296) {db : Int} {bg : Bool} : ∀ (j n : Nat) (l0 l1 : List Int) (X now i : Int), s ≤ X → X < 2 ^ j → j ≤ 64 → 0 ≤ i → i + j ≤ 69 → 1000 ≤ now → now ≤ 1000 + i * 17179869184 → j + 2 < n →
    ∃ L0 L1 due, ∀ {α : Type} (kx : Nat → List Leaf → Option α) (kr : List Leaf → Option α), TfrcHalves_10_L kx kr n l0 l1 s X loss r true db bg true (waitD now s r X) s i now = kx 0 [.li L0, .li L1, .i s, .i s, .i loss, .i r, .b true, .i db, .b bg, .b false, .i due, .i s]
  | 0, n, l0, l1, X, now, i, hX0, hX1, hj, hi0, hi1, hn0, hn1, hn => by
    have : (2 : Int) ^ 0 = 1 := rfl
    omega
  | j + 1, n, l0, l1, X, now, i, hX0, hX1, hj, hi0, hi1, hn0, hn1, hn => by
    obtain ⟨n, rfl⟩ : ∃ n', n = n' + 1 := ⟨n - 1, by omega⟩
    have hp : (2 : Int) ^ (j + 1) = 2 ^ j * 2 := Int.pow_succ 2 j
    have hp64 : (2 : Int) ^ (j + 1) ≤ 2 ^ 64 := by exact_mod_cast Nat.pow_le_pow_right (show 0 < 2 by decide) hj
    have e64 : (2 : Int) ^ 64 = 18446744073709551616 := by decide
    have hw := wait_b (now := now) s1 s2 h3 h4 hX0
    obtain ⟨d, hd⟩ : ∃ d, d = waitD now s r X := ⟨_, rfl⟩
    rw [← hd] at hw ⊢
    obtain ⟨M0, M1, f2⟩ := fire_due (l0 := l0) (l1 := l1) (x := X) (loss := loss) (db := db) (due := d) (bg := bg) s1 s2 h3 h4 (by omega) (by omega) (by omega) (by omega)
    have f1 := fire_early (l0 := l0) (l1 := l1) (s := s) (x := X) (loss := loss) (r := r) (db := db) (due := d) (t := d - 1) (h := true) (bg := bg) (st := true) (by omega)
    have e1 : subI .i64 d 1 = d - 1 := subI_i (by unfold I63; omega)
    have e2 : addI .i64 i 1 = i + 1 := addI_i (by unfold I63; omega)
    have e3 : quoI .u64 X 2 = X / 2 := quoI_u ⟨by omega, by omega⟩ (by omega)
    have e4 : wrapI .u64 s = s := by rw [wrapI_u]; omega
    have step : ∀ {α : Type} (kx : Nat → List Leaf → Option α) (kr : List Leaf → Option α), TfrcHalves_10_L kx kr (n + 1) l0 l1 s X loss r true db bg true d s i now = TfrcHalves_10_L kx kr n M0 M1 s (max (X / 2) s) loss r true db bg (decide (max (X / 2) s > s)) (waitD d s r (max (X / 2) s)) s (i + 1) d := by
      intro α kx kr
      simp only [TfrcHalves_10_L, TfrcHalves_10_B]
      rw [br_pos (show i < 70 by omega)]
      simp only [chk_tt, chk_TT, tfrc_Rate, tfrc_Due, Bool.not_true, br_f, out_ev, un_i_ev, un_b_ev, un_nil_ev]
      rw [br_neg (show ¬ d ≤ now by omega)]
      simp only [one_ev, e1, f1, f2, out_ev, un_li_ev, un_i_ev, un_b_ev, un_nil_ev, chk_tt, chk_TT, br_f, Bool.not_true, e2, e3, e4, maxI_eq]
      rw [bne_self_eq_false, br_f]
    by_cases hs : max (X / 2) s > s
    · obtain ⟨L0, L1, due, g⟩ := th10 s1 s2 h3 h4 (loss := loss) (db := db) (bg := bg) j n M0 M1 (max (X / 2) s) d (i + 1) (by omega) (by omega) (by omega) (by omega) (by omega) (by omega) (by omega) (by omega)
      refine ⟨L0, L1, due, fun kx kr => ?_⟩
      rw [step, decide_eq_true hs]
      exact g kx kr
    · obtain ⟨n, rfl⟩ : ∃ n', n = n' + 1 := ⟨n - 1, by omega⟩
      refine ⟨M0, M1, waitD d s r (max (X / 2) s), fun kx kr => ?_⟩
      rw [step, decide_eq_false hs, show max (X / 2) s = s by omega]
      simp only [TfrcHalves_10_L, TfrcHalves_10_B]
      rw [br_pos (show i + 1 < 70 by omega)]
      simp only [chk_tt, chk_TT, tfrc_Rate, tfrc_Due, Bool.not_false, br_t, out_ev, un_i_ev, un_b_ev, un_nil_ev]
theorem TfrcHalves_true {size sample x p : Int} (hx : U x) (hp : U p) : TfrcHalves size sample x p = some [.b true] := by
  obtain ⟨N, hN0, hN1, eN⟩ := rem_N (m := 1400) (by decide) (by decide) size
  obtain ⟨s, hs⟩ : ∃ s, s = 1 + N := ⟨_, rfl⟩
  have e1 : addI .i64 1 N = s := by rw [addI_i (show I63 (1 + N) by unfold I63; omega), hs]
  have s1 : 1 ≤ s := by omega
  have s2 : s ≤ 1400 := by omega
  obtain ⟨L0, L1, X, r, g1, g2, g3, g4, g5⟩ := hearH (s := s) (x := 64 * s) (due := 2000000) (v := x) (p := p) (sample := sample) (bg := true) (st := true) s1 s2 hx hp
  have h64 : X < (2 : Int) ^ 64 := by rw [show (2 : Int) ^ 64 = 18446744073709551616 by decide]; exact g2
  obtain ⟨M0, M1, due, g6⟩ := th10 (s := s) (r := r) (loss := min p 4294967296) s1 s2 g3 g4 (db := 1000) (bg := true) 64 top L0 L1 X 1000 0 g1 h64 (by omega) (by omega) (by omega) (by omega) (by omega) (by unfold top; omega)
  have e2 : wrapI .u64 s = s := by rw [wrapI_u]; omega
  unfold TfrcHalves TfrcHalves_d
  simp only [one_ev, eN, e1, new_t s1 s2, out_ev, un_li_ev, un_i_ev, un_b_ev, un_nil_ev, chk_tt, chk_TT]
  unfold tfrc_Start
  simp only [Bool.not_false, br_t, one_ev, show minI 0 4611686018427387904 = 0 by decide, show addI .i64 0 2000000 = 2000000 by decide, chk_tt, chk_TT, out_ev, un_li_ev, un_i_ev, un_b_ev, un_nil_ev, g5]
  rw [g6]
  simp only [beq00, br_t, br_f, un_li_ev, un_i_ev, un_b_ev, un_nil_ev, chk_tt, chk_TT, tfrc_Due, tfrc_Rate, Bool.not_false, Bool.not_true, out_ev, one_ev, e2]
  rw [br_eq rfl]
  unfold tfrc_Fire
  simp only [Bool.not_false, br_t, chk_tt, chk_TT, out_ev, un_li_ev, un_i_ev, un_b_ev, un_nil_ev]
end Go.Sx.T

