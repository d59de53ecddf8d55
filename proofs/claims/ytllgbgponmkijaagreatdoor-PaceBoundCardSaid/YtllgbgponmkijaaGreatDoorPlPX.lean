import Derived.Test.YtllgbgponmkijaaGreatDoorPlRP
import Derived.Test.YtllgbgponmkijaaGreatDoorPlPW
set_option linter.all false
namespace Go.Sx.T
open Go Go.Sx
theorem rtake_t {s k h r now at_ n : Int} (tk : Bool) (p : PS s k h r now) (h0 : 0 ≤ at_) (h1 : at_ ≤ 4611686018427387904) :
    rp_Take s r k h now at_ n tk = some [.i s, .i r, .i k, .i (if tk = true ∧ mayB (getH s k h r now at_) n = true then getH s k h r now at_ - 64000000 * n else getH s k h r now at_), .i (max now at_), .b (mayB (getH s k h r now at_) n)] := by
  have hc := capI_U p.s1 p.s2 p.k0 p.r
  obtain ⟨s1, s2, k0, k1, a0, a1, hr, n0, n1⟩ := p.get h0 h1
  unfold U at hc
  unfold rp_Take
  simp only [to_t p h0 h1, out_ev, un_i_ev, un_nil_ev, one_ev]
  generalize getH s k h r now at_ = G at *
  by_cases hn : n < 0
  · rw [br_pos hn, show mayB G n = false from decide_eq_false (by omega)]
    simp
  rw [br_neg hn]
  by_cases hn1 : n > 65535
  · rw [br_pos hn1, show mayB G n = false from decide_eq_false (by omega)]
    simp
  rw [br_neg hn1]
  have e1 : wrapI .u64 n = n := by rw [wrapI_u]; omega
  have e2 : mulI .u64 64000000 n = 64000000 * n := by rw [mulI_u]; omega
  simp only [e1, e2]
  by_cases hl : G < 64000000 * n
  · rw [br_pos hl, show mayB G n = false from decide_eq_false (by omega)]
    simp
  rw [br_neg hl, show mayB G n = true from decide_eq_true (by omega)]
  cases tk with
  | false => rw [br_f]; simp
  | true =>
    rw [br_t, subI_u, show (G - 64000000 * n) % 18446744073709551616 = G - 64000000 * n by omega]
    simp
/-- When so many may go. -/
def whenI (s k h r now n : Int) : Int :=
  if n < 0 ∨ n > 65535 then 4611686018427387904 else if 64000000 * n ≤ h then now
  else if r = 0 ∨ 64000000 * n > capI s k r then 4611686018427387904 else min (now + upI (64000000 * n - h) r) 4611686018427387904
theorem when_t {s k h r now n : Int} (p : PS s k h r now) : pace_When s k h r now n = some [.i (whenI s k h r now n)] := by
  unfold whenI
  by_cases hn : n < 0 ∨ n > 65535
  · rw [if_pos hn]
    unfold pace_When
    by_cases h1 : n < 0
    · rw [br_pos h1]
    · rw [br_neg h1, br_pos (by omega)]
  rw [if_neg hn]
  by_cases hl : 64000000 * n ≤ h
  · rw [if_pos hl]
    have hh : U h := by have := capI_U p.s1 p.s2 p.k0 p.r; have := p.h0; have := p.h1; unfold U at *; omega
    have e1 : wrapI .u64 n = n := by rw [wrapI_u]; omega
    have e2 : mulI .u64 64000000 n = 64000000 * n := by rw [mulI_u]; omega
    have h0 := p.h0; have n1 := p.n1
    unfold pace_When
    rw [br_neg (by omega), br_neg (by omega)]
    simp only [one_ev, e1, e2, fix_Sub_s (show U (64000000 * n) by unfold U; omega) hh, out_ev, un_i_ev, un_nil_ev, minI_eq]
    rw [show subS (64000000 * n) h = 0 by unfold subS; omega, br_eq rfl, Int.min_eq_left n1]
  · have h0 := p.h0
    rw [if_neg hl, when_pos p (by omega) (by omega) (by omega)]
theorem rwhen_t {s k h r now n : Int} (p : PS s k h r now) : rp_When s r k h now n = some [.i (whenI s k h r now n)] := by
  have hcap := capI_U p.s1 p.s2 p.k0 p.r
  have h0 := p.h0; have h1 := p.h1; have n0 := p.n0; have n1 := p.n1
  have hr := p.r
  have hh : U h := by unfold U at *; omega
  unfold whenI rp_When
  by_cases hn : n < 0
  · rw [br_pos hn, if_pos (.inl hn)]
  rw [br_neg hn]
  by_cases hn1 : n > 65535
  · rw [br_pos hn1, if_pos (.inr hn1)]
  rw [br_neg hn1, if_neg (by omega)]
  have e1 : wrapI .u64 n = n := by rw [wrapI_u]; omega
  have e2 : mulI .u64 64000000 n = 64000000 * n := by rw [mulI_u]; omega
  have e4 : wrapI .u64 now = now := by rw [wrapI_u]; omega
  simp only [one_ev, e1, e2, e4, rcap_t p.s1 p.s2 p.k0 p.k1 p.r, ref_Sub_s (show U (64000000 * n) by unfold U; omega) hh, out_ev, un_i_ev, un_nil_ev, minI_eq]
  by_cases hc : 64000000 * n > capI s k r
  · rw [br_pos hc, if_neg (by omega), if_pos (.inr hc)]
  rw [br_neg hc]
  by_cases hl : 64000000 * n ≤ h
  · rw [if_pos hl, show subS (64000000 * n) h = 0 by unfold subS; omega, br_eq rfl, Int.min_eq_left n1]
  rw [if_neg hl, show subS (64000000 * n) h = 64000000 * n - h by unfold subS; omega, br_ne (by omega)]
  obtain ⟨L, hL⟩ : ∃ L, L = 64000000 * n - h := ⟨_, rfl⟩
  rw [← hL]
  by_cases hr0 : r = 0
  · rw [br_eq hr0, if_pos (.inl hr0)]
  unfold U at hr
  have hb := upI_b (l := L) (r := r) (by omega) (by omega)
  rw [br_ne hr0, if_neg (by omega), chk_pos hr0, chk_pos hr0, quoI_u (show U L by unfold U; omega) (by omega), remI_u (by omega)]
  have hd : 0 ≤ L / r := Int.ediv_nonneg (by omega) (by omega)
  have hd1 : L / r ≤ L := Int.ediv_le_self _ (by omega)
  have fin : ∀ w : Int, 0 ≤ w → w ≤ L → wrapI .i64 (min (satA now w) 4611686018427387904) = min (now + w) 4611686018427387904 := by
    intro w w0 w1
    have : satA now w = now + w := by unfold satA M64; omega
    rw [this]
    exact wrapI_i (by unfold I63; omega)
  have un : U now := by unfold U; omega
  unfold upI at hb ⊢
  by_cases hm : L % r > 0
  · rw [if_pos hm] at hb
    have e5 : addI .u64 (L / r) 1 = L / r + 1 := by rw [addI_u]; omega
    rw [br_pos hm, if_pos hm, e5, ref_Add_s' un (by unfold U; omega)]
    simp only [out_ev, un_i_ev, un_nil_ev]
    rw [fin _ (by omega) (by omega)]
  · rw [br_neg hm, if_neg hm, ref_Add_s' un (by unfold U; omega)]
    simp only [out_ev, un_i_ev, un_nil_ev]
    rw [fin _ hd hd1]
theorem take_PS {s k h r now at_ n : Int} (p : PS s k h r now) (h0 : 0 ≤ at_) (h1 : at_ ≤ 4611686018427387904) :
    PS s k (if mayB (getH s k h r now at_) n = true then getH s k h r now at_ - 64000000 * n else getH s k h r now at_) r (max now at_) := by
  obtain ⟨s1, s2, k0, k1, a0, a1, hr, n0, n1⟩ := p.get h0 h1
  refine ⟨s1, s2, k0, k1, ?_, ?_, hr, n0, n1⟩
  · split
    · rename_i h; have := of_decide_eq_true h; omega
    · omega
  · split
    · rename_i h; have := of_decide_eq_true h; omega
    · omega
end Go.Sx.T

