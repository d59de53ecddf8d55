import Derived.Test.YtdjnfdcoilgegaaGreatDoorPlNt
import Derived.Test.YtdjnfdcoilgegaaGreatDoorPlPaceT
import Derived.Test.YtdjnfdcoilgegaaGreatDoorYfCtlSpec
set_option linter.all false
namespace Go.Sx.T
open Go Go.Sx
theorem waits0 {l0 l1 : List Int} {s x loss db due now : Int} {h bg st : Bool} (h1 : 1 ≤ s) (h2 : s ≤ 1400) (hx : s ≤ x) (hxU : x < 18446744073709551616) (hn : 0 ≤ now) (hn1 : now ≤ 4611686018427387904) :
    tfrc_waits l0 l1 s x loss 0 h db bg st due now = some [.li l0, .li l1, .i s, .i x, .i loss, .i 0, .b h, .i db, .b bg, .b true, .i (now + mdI (128 * s) 1000000 x)] := by
  have hU := mdI_U (128 * s) 1000000 x (by omega) (by omega) (by omega)
  have hle : mdI (128 * s) 1000000 x ≤ 128000000 := by
    unfold mdI
    rw [if_neg (by omega)]
    have : 128 * s * 1000000 / x ≤ 128000000 := by
      apply Int.ediv_le_of_le_mul (by omega)
      omega
    omega
  have e1 : mulI .u64 128 s = 128 * s := by rw [mulI_u]; omega
  have e2 : mulI .i64 4 0 = 0 := by decide
  unfold tfrc_waits
  obtain ⟨w, hw⟩ : ∃ w, w = mdI (128 * s) 1000000 x := ⟨_, rfl⟩
  rw [← hw] at hU hle ⊢
  unfold U at hU
  have e3 : wrapI .i64 w = w := wrapI_i (by unfold I63; omega)
  have e4 : addI .i64 now w = now + w := addI_i (by unfold I63; omega)
  have e5 : min now 4611686018427387904 = now := by omega
  simp only [one_ev, e1, e2, minI_eq, maxI_eq, e5, fix_MulDiv_t (show U (128 * s) by unfold U; omega) (show U 1000000 by unfold U; omega) (show U x by unfold U; omega), ← hw, e3, show max 0 w = w by omega, e4, out_ev, un_i_ev, un_nil_ev, chk_tt, chk_TT]
theorem fire0_early {l0 l1 : List Int} {s x loss r db due t : Int} {h bg : Bool} (ht : t < due) (ht1 : t ≤ 4611686018427387904) : tfrc_Fire l0 l1 s x loss r h db bg true due t = some [.li l0, .li l1, .i s, .i x, .i loss, .i r, .b h, .i db, .b bg, .b true, .i due, .b false] := by
  unfold tfrc_Fire
  simp only [Bool.not_true, br_f, one_ev, minI_eq, show min t 4611686018427387904 = t by omega]
  rw [br_pos ht]
  simp only [chk_tt, chk_TT]
theorem fire0_due {l0 l1 : List Int} {s x loss db due t : Int} {bg : Bool} (h1 : 1 ≤ s) (h2 : s ≤ 1400) (hx : s ≤ x / 2) (hxU : x < 18446744073709551616) (ht : due ≤ t) (ht0 : 0 ≤ t) (ht1 : t ≤ 4611686018427387904) :
    tfrc_Fire l0 l1 s x loss 0 false db bg true due t = some [.li l0, .li l1, .i s, .i (x / 2), .i loss, .i 0, .b false, .i db, .b bg, .b (decide (x / 2 > s)), .i (t + mdI (128 * s) 1000000 (x / 2)), .b true] := by
  have e1 : quoI .u64 x 2 = x / 2 := quoI_u (by unfold U; omega) (by omega)
  unfold tfrc_Fire
  simp only [Bool.not_true, br_f, one_ev, minI_eq, show min t 4611686018427387904 = t by omega]
  rw [br_neg (by omega)]
  simp only [one_ev, e1, maxI_eq, show max (x / 2) s = x / 2 by omega, chk_tt, chk_TT]
  rw [waits0 h1 h2 hx (by omega) ht0 ht1]
  simp only [out_ev, un_li_ev, un_i_ev, un_b_ev, un_nil_ev, chk_tt, chk_TT]
end Go.Sx.T

