import Derived.Test.YtngjglbakgdgaaaGreatDoorPlPaceT
import Derived.Test.YtngjglbakgdgaaaGreatDoorPlHr
import Derived.Test.YtngjglbakgdgaaaGreatDoorYhCtlSpec
set_option linter.all false
namespace Go.Sx.T
open Go Go.Sx
theorem chk_T1 {α : Type} (x : Option α) : chk (decide True && true && true) x = x := by simp [chk_t]
theorem turns_t {l0 l1 : List Int} {last s x loss rtt db due ps pk ph pr pn now : Int} {h bg st : Bool} (p : PS ps pk ph pr pn) (h0 : 0 ≤ now) (h1 : now ≤ 4611686018427387904) (hx : U x) :
    ∃ ph' pr' pn', PS ps pk ph' pr' pn' ∧ cr_turns l0 l1 last s x loss rtt h db bg st due ps pk ph pr pn now = some [.li l0, .li l1, .i x, .i s, .i x, .i loss, .i rtt, .b h, .i db, .b bg, .b st, .i due, .i ps, .i pk, .i ph', .i pr', .i pn'] := by
  by_cases e : x = last
  · subst e
    refine ⟨ph, pr, pn, p, ?_⟩
    unfold cr_turns tfrc_Rate
    simp only [one_ev, out_ev, un_i_ev, un_nil_ev, chk_T1, decide_true, Bool.and_true, chk_t]
    rw [show (x != x) = false by simp, br_f]
  · refine ⟨_, _, _, p.rate h0 h1 hx, ?_⟩
    unfold cr_turns tfrc_Rate
    simp only [one_ev, out_ev, un_i_ev, un_nil_ev, chk_T1, decide_true, Bool.and_true, chk_t]
    rw [show (x != last) = true by simpa using e, br_t, rate_t p h0 h1 hx]
    simp only [out_ev, un_i_ev, un_nil_ev]
theorem crHear_no {l0 l1 g la lo : List Int} {last s x loss rtt db due ps pk ph pr pn now mk sm v q : Int} {h bg st : Bool} (p : PS ps pk ph pr pn) (h0 : 0 ≤ now) (h1 : now ≤ 4611686018427387904) (hx : U x) (hs : sm < 0) :
    ∃ ph' pr' pn', PS ps pk ph' pr' pn' ∧ cr_Hear l0 l1 g la lo last s x loss rtt h db bg st due ps pk ph pr pn now mk sm v q = some [.li l0, .li l1, .i x, .i s, .i x, .i loss, .i rtt, .b h, .i db, .b bg, .b st, .i due, .i ps, .i pk, .i ph', .i pr', .i pn'] := by
  obtain ⟨a, b, c, q1, q2⟩ := turns_t (l0 := l0) (l1 := l1) (last := last) (s := s) (loss := loss) (rtt := rtt) (db := db) (due := due) (h := h) (bg := bg) (st := st) p h0 h1 hx
  refine ⟨a, b, c, q1, ?_⟩
  unfold cr_Hear
  simp only [q2, out_ev, un_li_ev, un_i_ev, un_b_ev, un_nil_ev, decide_true, Bool.and_true, chk_t]
  rw [br_neg (by omega)]
theorem crHear_yes {l0 l1 g la lo L0 L1 : List Int} {last s x loss rtt db due ps pk ph pr pn now mk sm v q x' loss' rtt' db' due' : Int} {h bg st h' bg' st' : Bool} (p : PS ps pk ph pr pn) (h0 : 0 ≤ now) (h1 : now ≤ 4611686018427387904) (hx : U x) (hs : 0 ≤ sm)
    (hh : tfrc_Hear l0 l1 s x loss rtt h db bg st due now sm v q false = some [.li L0, .li L1, .i s, .i x', .i loss', .i rtt', .b h', .i db', .b bg', .b st', .i due']) (hx' : U x') :
    ∃ ph' pr' pn', PS ps pk ph' pr' pn' ∧ cr_Hear l0 l1 g la lo last s x loss rtt h db bg st due ps pk ph pr pn now mk sm v q = some [.li L0, .li L1, .i x', .i s, .i x', .i loss', .i rtt', .b h', .i db', .b bg', .b st', .i due', .i ps, .i pk, .i ph', .i pr', .i pn'] := by
  obtain ⟨a, b, c, q1, q2⟩ := turns_t (l0 := l0) (l1 := l1) (last := last) (s := s) (loss := loss) (rtt := rtt) (db := db) (due := due) (h := h) (bg := bg) (st := st) p h0 h1 hx
  obtain ⟨a', b', c', r1, r2⟩ := turns_t (l0 := L0) (l1 := L1) (last := x) (s := s) (loss := loss') (rtt := rtt') (db := db') (due := due') (h := h') (bg := bg') (st := st') q1 h0 h1 hx'
  refine ⟨a', b', c', r1, ?_⟩
  unfold cr_Hear
  simp only [q2, out_ev, un_li_ev, un_i_ev, un_b_ev, un_nil_ev, decide_true, Bool.and_true, chk_t]
  rw [br_pos (by omega), hh]
  simp only [r2, out_ev, un_li_ev, un_i_ev, un_b_ev, un_nil_ev, decide_true, Bool.and_true, chk_t]
end Go.Sx.T

