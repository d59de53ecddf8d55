import Derived.Test.YtdjnfdcoilgegaaGreatDoorPlPaceT
import Derived.Test.YtdjnfdcoilgegaaGreatDoorPlNt
import Derived.Test.YtdjnfdcoilgegaaGreatDoorYfCtlSpec
set_option linter.all false
namespace Go.Sx.T
open Go Go.Sx
theorem chk_T1 {α : Type} (x : Option α) : chk (decide True && true && true) x = x := by simp [chk_t]
theorem turns_t {l0 l1 : List Int} {last s x loss rtt db due ps pk ph pr pn now : Int} {h bg st : Bool} (p : PS ps pk ph pr pn) (h0 : 0 ≤ now) (h1 : now ≤ 4611686018427387904) (hx : U x) :
    ∃ ph' pr' pn', PS ps pk ph' pr' pn' ∧ cr_turns l0 l1 last s x loss rtt h db bg st due ps pk ph pr pn now = some [.li l0, .li l1, .i x, .i s, .i x, .i loss, .i rtt, .b h, .i db, .b bg, .b st, .i due, .i ps, .i pk, .i ph', .i pr', .i pn'] := by
  by_cases e : x = last
  · subst e
    refine ⟨ph, pr, pn, p, ?_⟩
    unfold cr_turns tfrc_Rate
    simp only [one_ev, out_ev, un_i_ev, un_nil_ev, chk_T1, decide_true, Bool.and_true, chk_t]
    rw [show (x != x) = false by simp, br_f]
  · refine ⟨_, _, _, p.rate h0 h1 hx, ?_⟩
    unfold cr_turns tfrc_Rate
    simp only [one_ev, out_ev, un_i_ev, un_nil_ev, chk_T1, decide_true, Bool.and_true, chk_t]
    rw [show (x != last) = true by simpa using e, br_t, rate_t p h0 h1 hx]
    simp only [out_ev, un_i_ev, un_nil_ev]
theorem crSent_t {l0 l1 : List Int} {last s x loss rtt db due ps pk ph pr pn now t n bd : Int} {h bg st : Bool} (p : PS ps pk ph pr pn) (h0 : 0 ≤ now) (h1 : now ≤ 4611686018427387904) (hx : U x) (hbd : bd = (if bg then due else now + 2000000)) :
    ∃ ph' pr' pn' ok, PS ps pk ph' pr' pn' ∧ cr_Sent l0 l1 last s x loss rtt h db bg st due ps pk ph pr pn now t n = some [.li l0, .li l1, .i x, .i s, .i x, .i loss, .i rtt, .b h, .i db, .b true, .b (bif bg then st else true), .i bd, .i ps, .i pk, .i ph', .i pr', .i pn', .b ok] := by
  obtain ⟨a, b, c, q1, q2⟩ := turns_t (l0 := l0) (l1 := l1) (last := last) (s := s) (loss := loss) (rtt := rtt) (db := db) (due := due) (h := h) (bg := bg) (st := st) p h0 h1 hx
  have es : tfrc_Start l0 l1 s x loss rtt h db bg st due now = some [.li l0, .li l1, .i s, .i x, .i loss, .i rtt, .b h, .i db, .b true, .b (bif bg then st else true), .i bd] := by
    unfold tfrc_Start
    cases bg
    · have e1 : min now 4611686018427387904 = now := by omega
      have e2 : addI .i64 now 2000000 = now + 2000000 := addI_i (by unfold I63; omega)
      rw [hbd]
      simp only [Bool.not_false, br_t, one_ev, minI_eq, e1, e2, decide_true, Bool.and_true, chk_t, cond_false]
      rfl
    · rw [hbd]
      simp only [Bool.not_true, br_f, decide_true, Bool.and_true, chk_t, cond_true]
      rfl
  have pt : PS ps pk (if mayB (getH ps pk a b c now) n = true then getH ps pk a b c now - 64000000 * n else getH ps pk a b c now) b (max c now) := by
    obtain ⟨s1, s2, k0, k1, a0, a1, hr, n0, n1⟩ := q1.get h0 h1
    by_cases hm : mayB (getH ps pk a b c now) n = true
    · obtain ⟨b0, b1, b2⟩ := of_decide_eq_true hm
      rw [if_pos hm]
      exact ⟨s1, s2, k0, k1, by omega, by omega, hr, n0, n1⟩
    · rw [if_neg hm]
      exact ⟨s1, s2, k0, k1, a0, a1, hr, n0, n1⟩
  refine ⟨_, _, _, mayB (getH ps pk a b c now) n, pt, ?_⟩
  unfold cr_Sent
  simp only [q2, es, out_ev, un_li_ev, un_i_ev, un_b_ev, un_nil_ev, decide_true, Bool.and_true, chk_t]
  rw [take_t q1 h0 h1]
  simp only [out_ev, un_li_ev, un_i_ev, un_b_ev, un_nil_ev]
end Go.Sx.T

