import Derived.Test.YtopcljhdejindaaGreatDoorPlRt
import Derived.Test.YtopcljhdejindaaGreatDoorYRASpec
set_option linter.all false
namespace Go.Sx.T
open Go Go.Sx
def itD : Nat → Int → Int
  | 0, n => n
  | k + 1, n => itD k (min (2 * n) 64000000)
theorem itD_succ : ∀ (k : Nat) (n : Int), itD (k + 1) n = min (2 * itD k n) 64000000
  | 0, n => rfl
  | k + 1, n => by rw [itD, itD_succ k]; rfl
theorem itD_top : ∀ k : Nat, itD k 64000000 = 64000000
  | 0 => rfl
  | k + 1 => by rw [itD, show min (2 * 64000000) 64000000 = (64000000 : Int) by omega, itD_top k]
theorem itD_b : ∀ (k : Nat) (n : Int), 200000 ≤ n → n ≤ 64000000 → 200000 ≤ itD k n ∧ itD k n ≤ 64000000
  | 0, n, h0, h1 => ⟨h0, h1⟩
  | k + 1, n, h0, h1 => itD_b k _ (by omega) (by omega)
theorem refRto_loop {a : Bool} {s p tw : Int} (htw : tw < 1000) : ∀ (k n : Nat) (i m : Int), k < n → i + k = tw → 0 ≤ i → 0 ≤ m → m ≤ 64000000 →
    ∀ {α : Type} (kx : Nat → List Leaf → Option α) (kr : List Leaf → Option α), refRtt_Rto_5_L kx kr n a s p tw i m = kx 0 [.b a, .i s, .i p, .i tw, .i (itD k m)] := by
  intro k
  induction k with
  | zero =>
    intro n i m hn hk hi h0 h1 α kx kr
    obtain ⟨n, rfl⟩ : ∃ n', n = n' + 1 := ⟨n - 1, by omega⟩
    simp only [refRtt_Rto_5_L, refRtt_Rto_5_B]
    rw [br_neg (by omega)]
    rfl
  | succ k ih =>
    intro n i m hn hk hi h0 h1 α kx kr
    obtain ⟨n, rfl⟩ : ∃ n', n = n' + 1 := ⟨n - 1, by omega⟩
    simp only [refRtt_Rto_5_L, refRtt_Rto_5_B, one_ev, minI_eq]
    rw [br_pos (by omega)]
    by_cases hm : m < 64000000
    · rw [br_pos hm, mulI_i (show I63 (2 * m) by unfold I63; omega), addI_i (show I63 (i + 1) by unfold I63; omega), ih n (i + 1) _ (by omega) (by omega) (by omega) (by omega) (by omega) kx kr]
      rfl
    · obtain rfl : m = 64000000 := by omega
      rw [br_neg hm, itD_top]
def baseR (a : Bool) (s p : Int) : Int := match a with | true => rtoI s p | false => 3000000
theorem baseR_b (a : Bool) (s p : Int) : 200000 ≤ baseR a s p ∧ baseR a s p ≤ 64000000 := by
  cases a with
  | true => exact rto_bounds s p
  | false => exact ⟨show (200000 : Int) ≤ 3000000 by decide, show (3000000 : Int) ≤ 64000000 by decide⟩
theorem refRto_t {a : Bool} {s p tw : Int} (hs : 0 ≤ s) (hs1 : s ≤ 64000000) (hp : 0 ≤ p) (hp1 : p ≤ 64000000) (h0 : 0 ≤ tw) (h1 : tw < 1000) : refRtt_Rto a s p tw = some [.i (itD tw.toNat (baseR a s p))] := by
  have htop : 1000 < top := by unfold top; omega
  have hb := baseR_b a s p
  unfold refRtt_Rto refRtt_Rto_d
  cases a with
  | true =>
    have e : maxI 200000 (minI (addI .i64 s (maxI (mulI .i64 4 p) 1000)) 64000000) = baseR true s p := by
      rw [maxI_eq, minI_eq, maxI_eq, mulI_i (show I63 (4 * p) by unfold I63; omega), addI_i (show I63 (s + max (4 * p) 1000) by unfold I63; omega)]
      show _ = rtoI s p
      unfold rtoI; omega
    simp only [br_t, one_ev]
    rw [e, refRto_loop h1 tw.toNat top 0 _ (by omega) (by omega) (by omega) (by omega) hb.2]
    simp only [beq00, br_t, un_b_ev, un_i_ev, un_nil_ev]
  | false =>
    simp only [br_f, one_ev]
    rw [refRto_loop h1 tw.toNat top 0 _ (by omega) (by omega) (by omega) (by omega) (by omega)]
    simp only [beq00, br_t, un_b_ev, un_i_ev, un_nil_ev]
    rfl
theorem refSample_first (s p tw d : Int) : refRtt_Sample false s p tw d = some [.b true, .i (clD d), .i (clD d / 2), .i 0] := by
  have h0 : 0 ≤ clD d := by unfold clD; omega
  have h1 : clD d ≤ 64000000 := by unfold clD; omega
  unfold refRtt_Sample
  simp only [one_ev, maxI_eq, minI_eq, Bool.not_false, br_t]
  rw [show max 0 (min d 64000000) = clD d by unfold clD; omega, quoI_n h0 (by omega) (by omega)]
theorem refSample_t {s p : Int} (tw d : Int) (hs : 0 ≤ s) (hs1 : s ≤ 64000000) (hp : 0 ≤ p) (hp1 : p ≤ 64000000) :
    refRtt_Sample true s p tw d = some [.b true, .i (smI s (clD d)), .i (spI p s (clD d)), .i 0] := by
  obtain ⟨c, hc⟩ : ∃ c, c = clD d := ⟨_, rfl⟩
  have h0 : 0 ≤ c := by rw [hc]; unfold clD; omega
  have h1 : c ≤ 64000000 := by rw [hc]; unfold clD; omega
  have e1 : mulI .i64 3 p = 3 * p := mulI_i (by unfold I63; omega)
  have e2 : subI .i64 s c = s - c := subI_i (by unfold I63; omega)
  have e2' : subI .i64 c s = c - s := subI_i (by unfold I63; omega)
  have e5 : mulI .i64 7 s = 7 * s := mulI_i (by unfold I63; omega)
  have e6 : addI .i64 (7 * s) c = 7 * s + c := addI_i (by unfold I63; omega)
  have e7 : quoI .i64 (7 * s + c) 8 = smI s c := quoI_n (by omega) (by omega) (by omega)
  unfold refRtt_Sample
  simp only [one_ev, maxI_eq, minI_eq, Bool.not_true, br_f]
  rw [show max 0 (min d 64000000) = c by rw [hc]; unfold clD; omega, ← hc, e1, e2, e2', e5, e6, e7]
  by_cases h : s - c < 0
  · rw [br_pos h, addI_i (show I63 (3 * p + (c - s)) by unfold I63; omega), quoI_n (by omega) (by omega) (by omega), show spI p s c = (3 * p + (c - s)) / 4 by unfold spI; congr 2; omega]
  · rw [br_neg h, addI_i (show I63 (3 * p + (s - c)) by unfold I63; omega), quoI_n (by omega) (by omega) (by omega), show spI p s c = (3 * p + (s - c)) / 4 by unfold spI; congr 2; omega]
theorem rtt_Smooth_t (a : Bool) (s p t : Int) (h : a = false → s = 0) : rtt_Smooth a s p t = some [.i s, .b a] := by
  cases a with
  | true => rfl
  | false => rw [h rfl]; rfl
structure RInv (a : Bool) (s p t tw : Int) : Prop where
  z : a = false → s = 0
  s0 : 0 ≤ s
  s1 : s ≤ 64000000
  p0 : 0 ≤ p
  p1 : p ≤ 64000000
  t : t = itD tw.toNat (baseR a s p)
  w : 0 ≤ tw
theorem RInv.samp (s p d : Int) (h0 : 0 ≤ s) (h1 : s ≤ 64000000) (h2 : 0 ≤ p) (h3 : p ≤ 64000000) : RInv true s p (rtoI s p) 0 := ⟨by simp, h0, h1, h2, h3, rfl, by omega⟩
theorem all6 {o0 o1 : List Int} : ∀ (k n : Nat) (a : Bool) (s p t tw i : Int), k < n → i + k = min (o0.length : Int) 60 → 0 ≤ i → tw ≤ i → RInv a s p t tw →
    ∃ a' s' p' t', ∀ {α : Type} (kx : Nat → List Leaf → Option α) (kr : List Leaf → Option α), RttAll_6_L kx kr n o0 o1 a s p tw a s p t i = kx 0 [.li o0, .li o1, .b a', .i s', .i p', .i t'] := by
  intro k
  induction k with
  | zero =>
    intro n a s p t tw i hn hk hi htw h
    obtain ⟨n, rfl⟩ : ∃ n', n = n' + 1 := ⟨n - 1, by omega⟩
    refine ⟨a, s, p, t, fun kx kr => ?_⟩
    simp only [RttAll_6_L, RttAll_6_B, one_ev, chk_len, chk_T]
    by_cases hl : i < Int.ofNat o0.length
    · rw [br_pos hl, br_neg (by simp at hl; omega)]
    · rw [br_neg hl]
  | succ k ih =>
    intro n a s p t tw i hn hk hi htw h
    obtain ⟨n, rfl⟩ : ∃ n', n = n' + 1 := ⟨n - 1, by omega⟩
    have hl : i < Int.ofNat o0.length := by simp; omega
    have e1 : addI .i64 i 1 = i + 1 := addI_i (by unfold I63; omega)
    by_cases hk0 : o0.getD i.toNat 0 = 0
    · -- a sample
      obtain ⟨d, hd⟩ : ∃ d, d = o1.getD i.toNat 0 := ⟨_, rfl⟩
      obtain ⟨s', p', es, ers, h0, h1, h2, h3⟩ : ∃ s' p', rtt_Sample a s p t d = some [.b true, .i s', .i p', .i (rtoI s' p')] ∧ refRtt_Sample a s p tw d = some [.b true, .i s', .i p', .i 0] ∧ 0 ≤ s' ∧ s' ≤ 64000000 ∧ 0 ≤ p' ∧ p' ≤ 64000000 := by
        have c0 : 0 ≤ clD d := by unfold clD; omega
        have c1 : clD d ≤ 64000000 := by unfold clD; omega
        cases a with
        | false => exact ⟨_, _, rtt_Sample_first _ _ _ _, refSample_first _ _ _ _, c0, c1, by omega, by omega⟩
        | true =>
          have := h.s0; have := h.s1; have := h.p0; have := h.p1
          exact ⟨_, _, rtt_Sample_t d h.s0 h.s1 h.p0 h.p1, refSample_t tw d h.s0 h.s1 h.p0 h.p1, by unfold smI; omega, by unfold smI; omega, by unfold spI; omega, by unfold spI; omega⟩
      obtain ⟨a2, s2, p2, t2, e⟩ := ih n true s' p' (rtoI s' p') 0 (i + 1) (by omega) (by omega) (by omega) (by omega) (RInv.samp s' p' d h0 h1 h2 h3)
      have hb := rto_bounds s' p'
      refine ⟨a2, s2, p2, t2, fun kx kr => ?_⟩
      simp only [RttAll_6_L, RttAll_6_B, one_ev, chk_len, chk_T]
      rw [br_pos hl, br_pos (by omega), chk_pos ⟨hi, hl⟩, chk_pos ⟨hi, hl⟩, show (o0.getD i.toNat 0 == 0) = true by rw [hk0]; rfl, br_t, chk_pos ⟨hi, hl⟩, chk_pos ⟨hi, hl⟩, ← hd, es]
      simp only [out_ev, un_b_ev, un_i_ev, un_nil_ev]
      rw [chk_pos ⟨hi, hl⟩, chk_pos ⟨hi, hl⟩, ers]
      simp only [out_ev, un_b_ev, un_i_ev, un_nil_ev]
      rw [refRto_t h0 h1 h2 h3 (by omega) (by omega)]
      simp only [rtt_Smooth, rtt_Rto, Bool.not_true, br_f, out_ev, un_b_ev, un_i_ev, un_nil_ev]
      rw [show itD (Int.toNat 0) (baseR true s' p') = rtoI s' p' by rfl, bne_self_eq_false, br_f, br_neg (by omega), br_neg (by omega), show (true == true) = true by rfl, Bool.not_true, br_f, bne_self_eq_false, br_f, e1]
      exact e kx kr
    · -- twice as long
      obtain ⟨t', ht'⟩ : ∃ t', t' = min (2 * t) 64000000 := ⟨_, rfl⟩
      have hb := itD_b tw.toNat _ (baseR_b a s p).1 (baseR_b a s p).2
      rw [← h.t] at hb
      have hw := h.w
      have hT : t' = itD (tw + 1).toNat (baseR a s p) := by rw [show (tw + 1).toNat = tw.toNat + 1 by omega, itD_succ, ← h.t, ht']
      obtain ⟨a2, s2, p2, t2, e⟩ := ih n a s p t' (tw + 1) (i + 1) (by omega) (by omega) (by omega) (by omega) ⟨h.z, h.s0, h.s1, h.p0, h.p1, hT, by omega⟩
      refine ⟨a2, s2, p2, t2, fun kx kr => ?_⟩
      simp only [RttAll_6_L, RttAll_6_B, one_ev, chk_len, chk_T]
      rw [br_pos hl, br_pos (by omega), chk_pos ⟨hi, hl⟩, chk_pos ⟨hi, hl⟩, show (o0.getD i.toNat 0 == 0) = false by simpa using hk0, br_f]
      simp only [rtt_Back, one_ev, minI_eq, out_ev, un_b_ev, un_i_ev, un_nil_ev]
      rw [mulI_i (show I63 (2 * t) by unfold I63; omega), ← ht', addI_i (show I63 (tw + 1) by unfold I63; omega), rtt_Smooth_t a s p t' h.z]
      simp only [rtt_Rto, out_ev, un_b_ev, un_i_ev, un_nil_ev]
      rw [refRto_t h.s0 h.s1 h.p0 h.p1 (by omega) (by omega), ← hT]
      simp only [out_ev, un_b_ev, un_i_ev, un_nil_ev]
      rw [bne_self_eq_false, br_f, br_neg (by omega), br_neg (by omega), show (a == a) = true by cases a <;> rfl, Bool.not_true, br_f, bne_self_eq_false, br_f, e1]
      exact e kx kr
theorem RttAll_true (o0 o1 : List Int) : RttAll o0 o1 = some [.b true] := by
  have htop : 1000 < top := by unfold top; omega
  unfold RttAll RttAll_d
  simp only [rtt_New, out_ev, un_b_ev, un_i_ev, un_nil_ev, chk_len, chk_T]
  cases o0 with
  | nil =>
    obtain ⟨n, ht⟩ : ∃ n, top = n + 1 := ⟨top - 1, by omega⟩
    rw [ht]
    simp only [RttAll_6_L, RttAll_6_B, one_ev, chk_len, chk_T]
    rw [br_neg (by simp)]
    simp only [beq00, br_t, un_li_ev, un_b_ev, un_i_ev, un_nil_ev, one_ev]
    rw [br_neg (by simp)]
    simp only [rtt_Rto, out_ev, un_i_ev, un_nil_ev]
    rfl
  | cons x o0 =>
    obtain ⟨a', s', p', t', e⟩ := all6 (o0 := x :: o0) (o1 := o1) (min ((x :: o0).length : Int) 60).toNat top false 0 0 3000000 0 0 (by omega) (by omega) (by omega) (by omega)
      ⟨fun _ => rfl, by omega, by omega, by omega, by omega, rfl, by omega⟩
    rw [e]
    simp only [beq00, br_t, un_li_ev, un_b_ev, un_i_ev, un_nil_ev, one_ev]
    rw [br_pos (by simp)]
end Go.Sx.T

