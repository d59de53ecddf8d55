import Derived.Test.YtllgbgponmkijaaGreatDoorPlPace
import Derived.Test.YtllgbgponmkijaaGreatDoorYRPSpec
set_option linter.all false
namespace Go.Sx.T
open Go Go.Sx
theorem rcap_t {s k h r now : Int} (s1 : 1 ≤ s) (s2 : s ≤ 1400) (k0 : 0 ≤ k) (k1 : k ≤ 1000000) (hr : U r) : rp_Cap s r k h now = some [.i (capI s k r)] := by
  have e1 : mulI .u64 64000000 s = 64000000 * s := by rw [mulI_u]; omega
  unfold rp_Cap capI
  simp only [one_ev, e1, ref_Mul_s hr (show U k by unfold U; omega), out_ev, un_i_ev, un_nil_ev, maxI_eq]
theorem to_t {s k h r now at_ : Int} (p : PS s k h r now) (h0 : 0 ≤ at_) (h1 : at_ ≤ 4611686018427387904) : rp_To s r k h now at_ = some [.i s, .i r, .i k, .i (getH s k h r now at_), .i (max now at_)] := by
  have hc := capI_U p.s1 p.s2 p.k0 p.r
  have hh : U h := by have := p.h0; have := p.h1; unfold U at *; omega
  have hn0 := p.n0; have hn1 := p.n1; have ha1 := p.h1
  unfold rp_To getH
  by_cases hle : at_ ≤ now
  · rw [br_neg (by omega), if_pos hle, show max now at_ = now by omega]
    simp only [rcap_t p.s1 p.s2 p.k0 p.k1 p.r, out_ev, un_i_ev, un_nil_ev, one_ev, minI_eq]
    rw [Int.min_eq_left ha1]
  · have e3 : subI .i64 at_ now = at_ - now := subI_i (by unfold I63; omega)
    have e1 : wrapI .u64 (at_ - now) = at_ - now := by rw [wrapI_u]; omega
    have hU := satM_U p.r.1 (show 0 ≤ at_ - now by omega)
    rw [br_pos (by omega), if_neg hle, show max now at_ = at_ by omega]
    simp only [e1, e3, ref_Mul_s p.r (show U (at_ - now) by unfold U; omega), ref_Add_s' hh hU, rcap_t p.s1 p.s2 p.k0 p.k1 p.r, out_ev, un_i_ev, un_nil_ev, one_ev, minI_eq]
theorem rrate_t {s k h r now at_ x : Int} (p : PS s k h r now) (h0 : 0 ≤ at_) (h1 : at_ ≤ 4611686018427387904) (hx : U x) :
    rp_Rate s r k h now at_ x = some [.i s, .i x, .i k, .i (min (getH s k h r now at_) (capI s k x)), .i (max now at_)] := by
  unfold rp_Rate
  simp only [to_t p h0 h1, out_ev, un_i_ev, un_nil_ev, rcap_t p.s1 p.s2 p.k0 p.k1 hx, one_ev, minI_eq]
end Go.Sx.T

