import Derived.Test.YtngjglbakgdgaaaGreatDoorPlnTH0
import Derived.Test.YtngjglbakgdgaaaGreatDoorPlnUp
set_option linter.all false
namespace Go.Sx.T
open Go Go.Sx
theorem lim_t {l0 l1 : List Int} {s x loss r db due now v p : Int} {h bg st : Bool} (hl : l0.length ≤ 7) (hs : l1.length = l0.length) (hn0 : 0 ≤ now) (hn1 : now ≤ 4611686018427387904) (h3 : 1 ≤ r) (h4 : r ≤ 4294967296)
    (hU : ∀ y ∈ l1 ++ [v], y < 18446744073709551616) :
    tfrc_limit l0 l1 s x loss r h db bg st due now v p false = some [.li (mfK (delB now r) (l0 ++ [now])), .li (mfV (delB now r) (l0 ++ [now]) (l1 ++ [v])), .i s, .i x, .i loss, .i r, .b h, .i db, .b bg, .b st, .i due, .i (satM 2 ((mfV (delB now r) (l0 ++ [now]) (l1 ++ [v])).foldl max 0))] := by
  have hlen := mfV_lenK (delB now r) (l0 ++ [now]) (l1 ++ [v]) (by simp [hs])
  have hle := mfK_lenle (delB now r) (l0 ++ [now])
  have hM := foldl_max_U (mfV (delB now r) (l0 ++ [now]) (l1 ++ [v])) 0 (by omega) (by omega) (fun y hy => hU y (mfV_mem _ _ _ y hy))
  unfold tfrc_limit
  simp only [br_f, chk_tt, chk_TT, upd_t hl hs hn0 hn1 (show 0 ≤ r by omega) (show r ≤ 1099511627776 by omega), out_ev, un_li_ev, un_i_ev, un_nil_ev]
  rw [max_t hlen (by simp at hle; omega)]
  simp only [out_ev, un_i_ev, un_nil_ev]
  rw [fix_Mul_s (show U 2 by unfold U; omega) (by unfold U; omega)]
  simp only [chk_tt, chk_TT, out_ev, un_i_ev, un_nil_ev]
/-- The first hearing, whatever is lost, at any time. -/
theorem hear1 {s x due v p r now : Int} {bg st : Bool} (s1 : 1 ≤ s) (s2 : s ≤ 1400) (hv : U v) (hp : U p) (h3 : 1 ≤ r) (h4 : r ≤ 4294967296) (hn0 : 0 ≤ now) (hn1 : now ≤ 4611686018427387904) : ∃ X, s ≤ X ∧ X < 18446744073709551616 ∧ (p = 0 → X = max (bgI s r) s) ∧
    tfrc_Hear [0] [18446744073709551615] s x 0 0 false 0 bg st due now r v p false =
      some [.li (mfK (delB now r) [0, now]), .li (mfV (delB now r) [0, now] [18446744073709551615, min v 1125899906842624]), .i s, .i X, .i (min p 4294967296), .i r, .b true, .i now, .b bg, .b true, .i (waitD now s r X)] := by
  have hr : min (max r 1) 4294967296 = r := by omega
  have hb := bgI_b s1 s2 h3 h4
  have en : min (max now 0) 4611686018427387904 = now := by omega
  obtain ⟨V, hV⟩ : ∃ V, V = min v 1125899906842624 := ⟨_, rfl⟩
  obtain ⟨Q, hQ⟩ : ∃ Q, Q = min p 4294967296 := ⟨_, rfl⟩
  unfold U at hv hp
  have hlim := lim_t (l0 := [0]) (l1 := [18446744073709551615]) (s := s) (x := bgI s r) (loss := 0) (r := r) (db := now) (due := due) (now := now) (v := V) (p := Q) (h := true) (bg := bg) (st := st) (by simp) (by simp) hn0 hn1 h3 h4 (by
    intro y hy
    simp only [List.cons_append, List.nil_append, List.mem_cons, List.not_mem_nil, or_false] at hy
    omega)
  have hm := foldl_max_U (mfV (delB now r) ([0] ++ [now]) ([18446744073709551615] ++ [V])) 0 (by omega) (by omega) (fun y hy => by
    have hy := mfV_mem _ _ _ y hy
    simp only [List.cons_append, List.nil_append, List.mem_cons, List.not_mem_nil, or_false] at hy
    omega)
  have hmU : U (satM 2 ((mfV (delB now r) ([0] ++ [now]) ([18446744073709551615] ++ [V])).foldl max 0)) := satM_U (by omega) hm.1
  generalize (satM 2 ((mfV (delB now r) ([0] ++ [now]) ([18446744073709551615] ++ [V])).foldl max 0)) = m at hlim hmU
  simp only [List.cons_append, List.nil_append] at hlim
  rw [← hV, ← hQ]
  generalize mfK (delB now r) [0, now] = L0 at hlim ⊢
  generalize mfV (delB now r) [0, now] [18446744073709551615, V] = L1 at hlim ⊢
  have e4 : wrapI .u64 r = r := by rw [wrapI_u]; omega
  unfold U at hmU
  by_cases hQ0 : Q > 0
  · obtain ⟨e, he, ee⟩ := eqn_Rate_U s r Q
    unfold U at he
    refine ⟨max (min e m) s, by omega, by omega, by omega, ?_⟩
    unfold tfrc_Hear
    simp only [one_ev, maxI_eq, minI_eq, hr, ← hV, ← hQ, Bool.not_false, br_t, chk_tt, chk_TT, en, begin_t s1 s2 h3 h4, out_ev, un_i_ev, un_nil_ev, hlim, un_li_ev, un_b_ev]
    rw [br_pos hQ0]
    simp only [one_ev, e4, ee, out_ev, un_i_ev, un_nil_ev, maxI_eq, minI_eq, chk_tt, chk_TT]
    rw [waits_t s1 s2 h3 h4 (by omega) (by omega) (by omega) (by omega)]
    simp only [out_ev, un_li_ev, un_i_ev, un_b_ev, un_nil_ev, chk_tt, chk_TT]
  · refine ⟨max (bgI s r) s, by omega, by omega, fun _ => rfl, ?_⟩
    unfold tfrc_Hear
    simp only [one_ev, maxI_eq, minI_eq, hr, ← hV, ← hQ, Bool.not_false, br_t, chk_tt, chk_TT, en, begin_t s1 s2 h3 h4, out_ev, un_i_ev, un_nil_ev, hlim, un_li_ev, un_b_ev]
    rw [br_neg hQ0]
    simp only [Bool.not_true, br_f, one_ev, maxI_eq, chk_tt, chk_TT]
    rw [waits_t s1 s2 h3 h4 (by omega) (by omega) (by omega) (by omega)]
    simp only [out_ev, un_li_ev, un_i_ev, un_b_ev, un_nil_ev, chk_tt, chk_TT]
end Go.Sx.T

