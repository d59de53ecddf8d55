import Derived.Test.YtbjpcbghchfifaaGreatDoorPlRtt
import Derived.Test.YtbjpcbghchfifaaGreatDoorYRBSpec
set_option linter.all false
namespace Go.Sx.T
open Go Go.Sx
theorem chk_len (n : Int) {α : Type} (x : Option α) : chk (decide (n = n) && true) x = x := by
  rw [decide_eq_true rfl]; exact chk_t x
theorem chk_T {α : Type} (x : Option α) : chk (decide True && true) x = x := by
  rw [decide_eq_true trivial]; exact chk_t x
def smI (s d : Int) : Int := (7 * s + d) / 8
def spI (p s d : Int) : Int := (3 * p + max (s - d) (d - s)) / 4
def clD (d : Int) : Int := min (max d 0) 64000000
theorem rtt_Sample_first (m p t d : Int) : rtt_Sample false m p t d = some [.b true, .i (clD d), .i (clD d / 2), .i (rtoI (clD d) (clD d / 2))] := by
  have h0 : 0 ≤ clD d := by unfold clD; omega
  have h1 : clD d ≤ 64000000 := by unfold clD; omega
  rw [← rtt_Sample_new (m := m) (p := p) (t := t) h0 h1]
  unfold rtt_Sample
  simp only [one_ev, maxI_eq, minI_eq]
  rw [show min (max d 0) 64000000 = clD d from rfl, show min (max (clD d) 0) 64000000 = clD d by omega]
theorem rtt_Sample_t {s p t : Int} (d : Int) (hs : 0 ≤ s) (hs1 : s ≤ 64000000) (hp : 0 ≤ p) (hp1 : p ≤ 64000000) :
    rtt_Sample true s p t d = some [.b true, .i (smI s (clD d)), .i (spI p s (clD d)), .i (rtoI (smI s (clD d)) (spI p s (clD d)))] := by
  obtain ⟨c, hc⟩ : ∃ c, c = clD d := ⟨_, rfl⟩
  have h0 : 0 ≤ c := by rw [hc]; unfold clD; omega
  have h1 : c ≤ 64000000 := by rw [hc]; unfold clD; omega
  obtain ⟨m, hm⟩ : ∃ m, m = max (s - c) (c - s) := ⟨_, rfl⟩
  have hm0 : 0 ≤ m := by omega
  have hm1 : m ≤ 64000000 := by omega
  obtain ⟨q, hq⟩ : ∃ q, q = (3 * p + m) / 4 := ⟨_, rfl⟩
  obtain ⟨u, hu⟩ : ∃ u, u = (7 * s + c) / 8 := ⟨_, rfl⟩
  have e1 : mulI .i64 3 p = 3 * p := mulI_i (by unfold I63; omega)
  have e2 : subI .i64 s c = s - c := subI_i (by unfold I63; omega)
  have e2' : subI .i64 c s = c - s := subI_i (by unfold I63; omega)
  have e3 : addI .i64 (3 * p) m = 3 * p + m := addI_i (by unfold I63; omega)
  have e4 : quoI .i64 (3 * p + m) 4 = q := by rw [hq]; exact quoI_n (by omega) (by omega) (by omega)
  have e5 : mulI .i64 7 s = 7 * s := mulI_i (by unfold I63; omega)
  have e6 : addI .i64 (7 * s) c = 7 * s + c := addI_i (by unfold I63; omega)
  have e7 : quoI .i64 (7 * s + c) 8 = u := by rw [hu]; exact quoI_n (by omega) (by omega) (by omega)
  have e8 : mulI .i64 4 q = 4 * q := mulI_i (by unfold I63; omega)
  have e9 : addI .i64 u (max (4 * q) 1000) = u + max (4 * q) 1000 := addI_i (by unfold I63; omega)
  unfold rtt_Sample rtoI smI spI
  simp only [one_ev, maxI_eq, minI_eq, Bool.not_true, br_f]
  rw [show min (max d 0) 64000000 = c from hc.symm, ← hc, e1, e2, e2', ← hm, e3, e4, e5, e6, e7, e8, e9, ← hq, ← hu]
/-- A state behind a sample at least. -/
structure RS (s p t : Int) : Prop where
  s0 : 0 ≤ s
  s1 : s ≤ 64000000
  p0 : 0 ≤ p
  p1 : p ≤ 64000000
  t : t = rtoI s p
theorem RS.first (d : Int) : RS (clD d) (clD d / 2) (rtoI (clD d) (clD d / 2)) := by
  have h0 : 0 ≤ clD d := by unfold clD; omega
  have h1 : clD d ≤ 64000000 := by unfold clD; omega
  exact ⟨h0, h1, by omega, by omega, rfl⟩
theorem RS.next {s p t : Int} (h : RS s p t) (d : Int) : RS (smI s (clD d)) (spI p s (clD d)) (rtoI (smI s (clD d)) (spI p s (clD d))) := by
  have h0 : 0 ≤ clD d := by unfold clD; omega
  have h1 : clD d ≤ 64000000 := by unfold clD; omega
  obtain ⟨a, b, c, d, _⟩ := h
  unfold smI spI
  exact ⟨by omega, by omega, by omega, by omega, rfl⟩
theorem back6 {ds : List Int} {n2 : Int} : ∀ (k n : Nat) (s p t i : Int), k < n → i + k = min (ds.length : Int) 10 → 0 ≤ i → RS s p t →
    ∃ s' p' t', RS s' p' t' ∧ ∀ {α : Type} (kx : Nat → List Leaf → Option α) (kr : List Leaf → Option α), RttBack_6_L kx kr n ds true s p t i n2 = kx 0 [.li ds, .b true, .i s', .i p', .i t', .i n2] := by
  intro k
  induction k with
  | zero =>
    intro n s p t i hn hk hi h
    obtain ⟨n, rfl⟩ : ∃ n', n = n' + 1 := ⟨n - 1, by omega⟩
    refine ⟨s, p, t, h, fun kx kr => ?_⟩
    simp only [RttBack_6_L, RttBack_6_B, one_ev, chk_len, chk_T]
    by_cases hl : i < Int.ofNat ds.length
    · rw [br_pos hl, br_neg (by simp at hl; omega)]
    · rw [br_neg hl]
  | succ k ih =>
    intro n s p t i hn hk hi h
    obtain ⟨n, rfl⟩ : ∃ n', n = n' + 1 := ⟨n - 1, by omega⟩
    obtain ⟨s', p', t', r, e⟩ := ih n _ _ _ (i + 1) (by omega) (by omega) (by omega) (h.next (ds.getD i.toNat 0))
    refine ⟨s', p', t', r, fun kx kr => ?_⟩
    have hl : i < Int.ofNat ds.length := by simp; omega
    simp only [RttBack_6_L, RttBack_6_B, one_ev, chk_len, chk_T]
    rw [br_pos hl, br_pos (by omega), chk_pos ⟨hi, hl⟩, chk_pos ⟨hi, hl⟩, rtt_Sample_t _ h.s0 h.s1 h.p0 h.p1]
    simp only [out_ev, un_b_ev, un_i_ev, un_nil_ev]
    rw [addI_i (show I63 (i + 1) by unfold I63; omega), e]
theorem back12 {ds : List Int} {n2 : Int} (N : Int) (eN : remI .i64 (addI .i64 (remI .i64 n2 12) 12) 12 = N) (hN0 : 0 ≤ N) (hN1 : N < 12) (any : Bool) (s p was : Int) : ∀ (k n : Nat) (t i : Int), k < n → i + k = N → 0 ≤ i → 0 ≤ t → t ≤ 64000000 →
    ∃ t', ∀ {α : Type} (kx : Nat → List Leaf → Option α) (kr : List Leaf → Option α), RttBack_12_L kx kr n ds any s p t i t was n2 = kx 2 [.li ds, .b any, .i s, .i p, .i t', .i was] := by
  intro k
  induction k with
  | zero =>
    intro n t i hn hk hi h0 h1
    obtain ⟨n, rfl⟩ : ∃ n', n = n' + 1 := ⟨n - 1, by omega⟩
    refine ⟨t, fun kx kr => ?_⟩
    simp only [RttBack_12_L, RttBack_12_B, one_ev, chk_len, chk_T, eN]
    rw [br_neg (by omega)]
  | succ k ih =>
    intro n t i hn hk hi h0 h1
    obtain ⟨n, rfl⟩ : ∃ n', n = n' + 1 := ⟨n - 1, by omega⟩
    obtain ⟨t', e⟩ := ih n (min (2 * t) 64000000) (i + 1) (by omega) (by omega) (by omega) (by omega) (by omega)
    refine ⟨t', fun kx kr => ?_⟩
    simp only [RttBack_12_L, RttBack_12_B, one_ev, chk_len, chk_T, eN]
    rw [br_pos (by omega)]
    simp only [rtt_Back, rtt_Rto, one_ev, out_ev, un_b_ev, un_i_ev, un_nil_ev, minI_eq, bne_self_eq_false, br_f]
    rw [mulI_i (show I63 (2 * t) by unfold I63; omega), addI_i (show I63 (i + 1) by unfold I63; omega), e]
theorem rem_N {m : Int} (hm : 0 < m) (hm1 : m < 4611686018427387904) (n : Int) : ∃ N, 0 ≤ N ∧ N < m ∧ remI .i64 (addI .i64 (remI .i64 n m) m) m = N := by
  unfold remI
  have h1 := Int.tmod_lt_of_pos n hm
  have h2 := Int.lt_tmod_of_pos n hm
  rw [addI_i (show I63 (n.tmod m + m) by unfold I63; omega), Int.tmod_eq_emod_of_nonneg (show 0 ≤ n.tmod m + m by omega)]
  exact ⟨(n.tmod m + m) % m, Int.emod_nonneg _ (by omega), Int.emod_lt_of_pos _ hm, rfl⟩
theorem rto_bounds (s p : Int) : 200000 ≤ rtoI s p ∧ rtoI s p ≤ 64000000 := by unfold rtoI; omega
theorem RttBack_true (ds : List Int) (n2 : Int) : RttBack ds n2 = some [.b true] := by
  obtain ⟨N, hN0, hN1, eN⟩ := rem_N (m := 12) (by decide) (by decide) n2
  unfold RttBack RttBack_d
  simp only [rtt_New, out_ev, un_b_ev, un_i_ev, un_nil_ev, chk_len, chk_T]
  obtain ⟨t, ht⟩ : ∃ t, top = t + 1 := ⟨999999999999999999999999, by decide⟩
  have htop : 20 < top := by unfold top; omega
  have htop' : 20 < t := by unfold top at ht; omega
  cases ds with
  | nil =>
    have h6 : ∀ {α : Type} (kx : Nat → List Leaf → Option α) (kr : List Leaf → Option α), RttBack_6_L kx kr top [] false 0 0 3000000 0 n2 = kx 0 [.li [], .b false, .i 0, .i 0, .i 3000000, .i n2] := by
      intro α kx kr
      rw [ht]
      simp only [RttBack_6_L, RttBack_6_B, one_ev, chk_len, chk_T]
      rw [br_neg (by simp)]
    obtain ⟨t', e⟩ := back12 (ds := []) N eN hN0 hN1 false 0 0 3000000 N.toNat top 3000000 0 (by omega) (by omega) (by omega) (by omega) (by omega)
    rw [h6]
    simp only [beq00, br_t, un_li_ev, un_b_ev, un_i_ev, un_nil_ev, rtt_Rto, out_ev, chk_len, chk_T, e, show Nat.beq 2 2 = true by rfl, one_ev]
    rfl
  | cons d ds =>
    obtain ⟨s, p, u, r, e6⟩ := back6 (ds := d :: ds) (n2 := n2) (min ((d :: ds).length : Int) 10 - 1).toNat t _ _ _ 1 (by omega) (by simp; omega) (by omega) (RS.first d)
    have h6 : ∀ {α : Type} (kx : Nat → List Leaf → Option α) (kr : List Leaf → Option α), RttBack_6_L kx kr top (d :: ds) false 0 0 3000000 0 n2 = kx 0 [.li (d :: ds), .b true, .i s, .i p, .i u, .i n2] := by
      intro α kx kr
      rw [ht]
      have hl : (0 : Int) < Int.ofNat (d :: ds).length := by simp
      simp only [RttBack_6_L, RttBack_6_B, one_ev, chk_len, chk_T]
      rw [br_pos hl, br_pos (by omega), chk_pos ⟨by omega, hl⟩, chk_pos ⟨by omega, hl⟩, rtt_Sample_first]
      simp only [out_ev, un_b_ev, un_i_ev, un_nil_ev]
      rw [show addI .i64 0 1 = 1 by rfl]
      exact e6 kx kr
    have hb := rto_bounds s p
    have hu : u = rtoI s p := r.t
    obtain ⟨t', e⟩ := back12 (ds := d :: ds) N eN hN0 hN1 true s p u N.toNat top u 0 (by omega) (by omega) (by omega) (by omega) (by omega)
    rw [h6]
    simp only [beq00, br_t, un_li_ev, un_b_ev, un_i_ev, un_nil_ev, rtt_Rto, out_ev, chk_len, chk_T, e, show Nat.beq 2 2 = true by rfl, one_ev, rtt_Smooth, Bool.not_true, br_f]
    rw [br_ne (by simp; omega), rtt_Sample_t s r.s0 r.s1 r.p0 r.p1]
    simp only [out_ev, un_b_ev, un_i_ev, un_nil_ev]
    have hc : clD s = s := by have := r.s0; have := r.s1; unfold clD; omega
    have hle : rtoI (smI s (clD s)) (spI p s (clD s)) ≤ u := by
      rw [hu, hc]
      have := r.p0
      unfold rtoI smI spI; omega
    rw [br_pos hle, decide_eq_true (rto_bounds _ _).1]
end Go.Sx.T

