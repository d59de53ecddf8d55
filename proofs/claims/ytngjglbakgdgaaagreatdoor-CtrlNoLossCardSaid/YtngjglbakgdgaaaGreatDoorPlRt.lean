import Derived.Test.YtngjglbakgdgaaaGreatDoorYnRttSpec
import Derived.Test.YtngjglbakgdgaaaGreatDoorPlA
set_option linter.all false
namespace Go.Sx.T
open Go Go.Sx
def rtoI (m p : Int) : Int := min (max (m + max (4 * p) 1000) 200000) 64000000
theorem rtt_Sample_new {m p t d : Int} (hd : 0 ≤ d) (hd1 : d ≤ 64000000) : rtt_Sample false m p t d = some [.b true, .i d, .i (d / 2), .i (rtoI d (d / 2))] := by
  unfold rtt_Sample rtoI
  simp only [one_ev, maxI_eq, minI_eq, Bool.not_false, br_t]
  rw [show max d 0 = d by omega, show min d 64000000 = d by omega, quoI_n hd (by omega) (by omega), mulI_i (show I63 (4 * (d / 2)) by unfold I63; omega),
    addI_i (show I63 (d + max (4 * (d / 2)) 1000) by unfold I63; omega)]
def smI (s d : Int) : Int := (7 * s + d) / 8
def spI (p s d : Int) : Int := (3 * p + max (s - d) (d - s)) / 4
def clD (d : Int) : Int := min (max d 0) 64000000
theorem rtt_Sample_first (m p t d : Int) : rtt_Sample false m p t d = some [.b true, .i (clD d), .i (clD d / 2), .i (rtoI (clD d) (clD d / 2))] := by
  have h0 : 0 ≤ clD d := by unfold clD; omega
  have h1 : clD d ≤ 64000000 := by unfold clD; omega
  rw [← rtt_Sample_new (m := m) (p := p) (t := t) h0 h1]
  unfold rtt_Sample
  simp only [one_ev, maxI_eq, minI_eq]
  rw [show min (max d 0) 64000000 = clD d from rfl, show min (max (clD d) 0) 64000000 = clD d by omega]
theorem rtt_Sample_t {s p t : Int} (d : Int) (hs : 0 ≤ s) (hs1 : s ≤ 64000000) (hp : 0 ≤ p) (hp1 : p ≤ 64000000) :
    rtt_Sample true s p t d = some [.b true, .i (smI s (clD d)), .i (spI p s (clD d)), .i (rtoI (smI s (clD d)) (spI p s (clD d)))] := by
  obtain ⟨c, hc⟩ : ∃ c, c = clD d := ⟨_, rfl⟩
  have h0 : 0 ≤ c := by rw [hc]; unfold clD; omega
  have h1 : c ≤ 64000000 := by rw [hc]; unfold clD; omega
  obtain ⟨m, hm⟩ : ∃ m, m = max (s - c) (c - s) := ⟨_, rfl⟩
  have hm0 : 0 ≤ m := by omega
  have hm1 : m ≤ 64000000 := by omega
  obtain ⟨q, hq⟩ : ∃ q, q = (3 * p + m) / 4 := ⟨_, rfl⟩
  obtain ⟨u, hu⟩ : ∃ u, u = (7 * s + c) / 8 := ⟨_, rfl⟩
  have e1 : mulI .i64 3 p = 3 * p := mulI_i (by unfold I63; omega)
  have e2 : subI .i64 s c = s - c := subI_i (by unfold I63; omega)
  have e2' : subI .i64 c s = c - s := subI_i (by unfold I63; omega)
  have e3 : addI .i64 (3 * p) m = 3 * p + m := addI_i (by unfold I63; omega)
  have e4 : quoI .i64 (3 * p + m) 4 = q := by rw [hq]; exact quoI_n (by omega) (by omega) (by omega)
  have e5 : mulI .i64 7 s = 7 * s := mulI_i (by unfold I63; omega)
  have e6 : addI .i64 (7 * s) c = 7 * s + c := addI_i (by unfold I63; omega)
  have e7 : quoI .i64 (7 * s + c) 8 = u := by rw [hu]; exact quoI_n (by omega) (by omega) (by omega)
  have e8 : mulI .i64 4 q = 4 * q := mulI_i (by unfold I63; omega)
  have e9 : addI .i64 u (max (4 * q) 1000) = u + max (4 * q) 1000 := addI_i (by unfold I63; omega)
  unfold rtt_Sample rtoI smI spI
  simp only [one_ev, maxI_eq, minI_eq, Bool.not_true, br_f]
  rw [show min (max d 0) 64000000 = c from hc.symm, ← hc, e1, e2, e2', ← hm, e3, e4, e5, e6, e7, e8, e9, ← hq, ← hu]
/-- A state behind a sample at least. -/
structure RS (s p t : Int) : Prop where
  s0 : 0 ≤ s
  s1 : s ≤ 64000000
  p0 : 0 ≤ p
  p1 : p ≤ 64000000
  t : t = rtoI s p
theorem RS.first (d : Int) : RS (clD d) (clD d / 2) (rtoI (clD d) (clD d / 2)) := by
  have h0 : 0 ≤ clD d := by unfold clD; omega
  have h1 : clD d ≤ 64000000 := by unfold clD; omega
  exact ⟨h0, h1, by omega, by omega, rfl⟩
theorem RS.next {s p t : Int} (h : RS s p t) (d : Int) : RS (smI s (clD d)) (spI p s (clD d)) (rtoI (smI s (clD d)) (spI p s (clD d))) := by
  have h0 : 0 ≤ clD d := by unfold clD; omega
  have h1 : clD d ≤ 64000000 := by unfold clD; omega
  obtain ⟨a, b, c, d, _⟩ := h
  unfold smI spI
  exact ⟨by omega, by omega, by omega, by omega, rfl⟩
theorem rto_bounds (s p : Int) : 200000 ≤ rtoI s p ∧ rtoI s p ≤ 64000000 := by unfold rtoI; omega
end Go.Sx.T

