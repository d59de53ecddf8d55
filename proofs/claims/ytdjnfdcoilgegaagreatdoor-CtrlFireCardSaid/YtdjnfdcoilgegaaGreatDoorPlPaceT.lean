import Derived.Test.YtdjnfdcoilgegaaGreatDoorPlSt
import Derived.Test.YtdjnfdcoilgegaaGreatDoorYPaceSpec
set_option linter.all false
namespace Go.Sx.T
open Go Go.Sx
def capI (s k r : Int) : Int := max (64000000 * s) (satM r k)
/-- A bucket as it may be. -/
structure PS (s k h r now : Int) : Prop where
  s1 : 1 ≤ s
  s2 : s ≤ 1400
  k0 : 0 ≤ k
  k1 : k ≤ 1000000
  h0 : 0 ≤ h
  h1 : h ≤ capI s k r
  r : U r
  n0 : 0 ≤ now
  n1 : now ≤ 4611686018427387904
theorem capI_U {s k r : Int} (s1 : 1 ≤ s) (s2 : s ≤ 1400) (k0 : 0 ≤ k) (hr : U r) : U (capI s k r) := by
  have := satM_U hr.1 k0
  unfold capI; unfold U at this ⊢; omega
theorem cap_t {s k h r now : Int} (s1 : 1 ≤ s) (s2 : s ≤ 1400) (k0 : 0 ≤ k) (k1 : k ≤ 1000000) (hr : U r) : pace_Cap s k h r now = some [.i (capI s k r)] := by
  have e1 : mulI .u64 64000000 s = 64000000 * s := by rw [mulI_u]; omega
  unfold pace_Cap capI
  simp only [one_ev, e1, fix_Mul_s hr (show U k by unfold U; omega), out_ev, un_i_ev, un_nil_ev, maxI_eq]
/-- What it has, at a time. -/
def getH (s k h r now at_ : Int) : Int := if at_ ≤ now then h else min (satA h (satM r (at_ - now))) (capI s k r)
theorem gets_t {s k h r now at_ : Int} (p : PS s k h r now) (h0 : 0 ≤ at_) (h1 : at_ ≤ 4611686018427387904) : pace_gets s k h r now at_ = some [.i s, .i k, .i (getH s k h r now at_), .i r, .i (max now at_)] := by
  have hc := capI_U p.s1 p.s2 p.k0 p.r
  have hh : U h := by have := p.h0; have := p.h1; unfold U at *; omega
  have hn0 := p.n0; have hn1 := p.n1
  unfold pace_gets getH
  simp only [one_ev, minI_eq, show min at_ 4611686018427387904 = at_ by omega]
  by_cases hle : at_ ≤ now
  · rw [br_pos hle, if_pos hle, show max now at_ = now by omega]
  · have e1 : wrapI .u64 at_ = at_ := by rw [wrapI_u]; omega
    have e2 : wrapI .u64 now = now := by rw [wrapI_u]; omega
    have e3 : subI .u64 at_ now = at_ - now := by rw [subI_u]; omega
    have hU := satM_U p.r.1 (show 0 ≤ at_ - now by omega)
    rw [br_neg hle, if_neg hle, show max now at_ = at_ by omega]
    simp only [e1, e2, e3, fix_Mul_s p.r (show U (at_ - now) by unfold U; omega), fix_Add_s p.h0 hU.1, cap_t p.s1 p.s2 p.k0 p.k1 p.r, out_ev, un_i_ev, un_nil_ev, one_ev, minI_eq]
theorem PS.get {s k h r now at_ : Int} (p : PS s k h r now) (h0 : 0 ≤ at_) (h1 : at_ ≤ 4611686018427387904) : PS s k (getH s k h r now at_) r (max now at_) := by
  obtain ⟨s1, s2, k0, k1, a0, a1, hr, n0, n1⟩ := p
  have hc := capI_U s1 s2 k0 hr
  refine ⟨s1, s2, k0, k1, ?_, ?_, hr, by omega, by omega⟩
  · unfold getH
    split
    · exact a0
    · have h2 := satM_U hr.1 (show 0 ≤ at_ - now by omega)
      have h3 := satA_U a0 h2.1
      unfold U at h3 hc; omega
  · unfold getH
    split
    · exact a1
    · omega
theorem rate_t {s k h r now at_ x : Int} (p : PS s k h r now) (h0 : 0 ≤ at_) (h1 : at_ ≤ 4611686018427387904) (hx : U x) :
    pace_Rate s k h r now at_ x = some [.i s, .i k, .i (min (getH s k h r now at_) (capI s k x)), .i x, .i (max now at_)] := by
  unfold pace_Rate
  simp only [gets_t p h0 h1, out_ev, un_i_ev, un_nil_ev, cap_t p.s1 p.s2 p.k0 p.k1 hx, one_ev, minI_eq]
theorem PS.rate {s k h r now at_ x : Int} (p : PS s k h r now) (h0 : 0 ≤ at_) (h1 : at_ ≤ 4611686018427387904) (hx : U x) : PS s k (min (getH s k h r now at_) (capI s k x)) x (max now at_) := by
  obtain ⟨s1, s2, k0, k1, a0, a1, hr, n0, n1⟩ := p.get h0 h1
  have hc := capI_U s1 s2 k0 hx
  unfold U at hc
  exact ⟨s1, s2, k0, k1, by omega, by omega, hx, n0, n1⟩
def mayB (h n : Int) : Bool := decide (0 ≤ n ∧ n ≤ 65535 ∧ 64000000 * n ≤ h)
theorem may_t {s k h r now at_ n : Int} (p : PS s k h r now) (h0 : 0 ≤ at_) (h1 : at_ ≤ 4611686018427387904) :
    pace_May s k h r now at_ n = some [.i s, .i k, .i (getH s k h r now at_), .i r, .i (max now at_), .b (mayB (getH s k h r now at_) n)] := by
  unfold pace_May mayB
  simp only [gets_t p h0 h1, out_ev, un_i_ev, un_nil_ev, one_ev]
  by_cases hn : 0 ≤ n
  · rw [br_pos hn]
    by_cases hn1 : n ≤ 65535
    · have e1 : wrapI .u64 n = n := by rw [wrapI_u]; omega
      have e2 : mulI .u64 64000000 n = 64000000 * n := by rw [mulI_u]; omega
      rw [br_pos hn1, e1, e2]
      congr 6
      simp [hn, hn1]
    · rw [br_neg hn1, decide_eq_false (by omega)]
  · rw [br_neg hn, decide_eq_false (by omega)]
theorem take_t {s k h r now at_ n : Int} (p : PS s k h r now) (h0 : 0 ≤ at_) (h1 : at_ ≤ 4611686018427387904) :
    pace_Take s k h r now at_ n = some [.i s, .i k, .i (if mayB (getH s k h r now at_) n = true then getH s k h r now at_ - 64000000 * n else getH s k h r now at_), .i r, .i (max now at_), .b (mayB (getH s k h r now at_) n)] := by
  have hc := capI_U p.s1 p.s2 p.k0 p.r
  obtain ⟨s1, s2, k0, k1, a0, a1, hr, n0, n1⟩ := p.get h0 h1
  unfold pace_Take
  simp only [may_t p h0 h1, out_ev, un_i_ev, un_b_ev, un_nil_ev, one_ev]
  cases hb : mayB (getH s k h r now at_) n with
  | false => simp only [Bool.not_false, br_t]; rfl
  | true =>
    obtain ⟨b0, b1, b2⟩ := of_decide_eq_true hb
    have e1 : wrapI .u64 n = n := by rw [wrapI_u]; omega
    have e2 : mulI .u64 64000000 n = 64000000 * n := by rw [mulI_u]; omega
    unfold U at hc
    simp only [Bool.not_true, br_f, one_ev, e1, e2, if_true]
    rw [subI_u, show (getH s k h r now at_ - 64000000 * n) % 18446744073709551616 = getH s k h r now at_ - 64000000 * n by omega]
theorem new_pace {s k : Int} (s1 : 1 ≤ s) (s2 : s ≤ 1400) (k0 : 0 ≤ k) (k1 : k ≤ 1000000) : pace_New s k = some [.i s, .i k, .i 0, .i 0, .i 0] := by
  have e1 : wrapI .u64 s = s := by rw [wrapI_u]; omega
  have e2 : wrapI .u64 k = k := by rw [wrapI_u]; omega
  unfold pace_New
  rw [br_neg (by omega), br_neg (by omega), br_neg (by omega), br_neg (by omega)]
  simp only [one_ev, e1, e2]
theorem PS.new {s k : Int} (s1 : 1 ≤ s) (s2 : s ≤ 1400) (k0 : 0 ≤ k) (k1 : k ≤ 1000000) : PS s k 0 0 0 :=
  ⟨s1, s2, k0, k1, by omega, by unfold capI; omega, by unfold U; omega, by omega, by omega⟩
end Go.Sx.T

