import Derived.Test.YtllgbgponmkijaaGreatDoorPlVal
set_option linter.all false
namespace Go.Sx.T
open Go Go.Sx
/-- Is it good, in one of the states of a connection? -/
def judgeB (St T : Int) (seq ack nx ga late : Bool) : Bool :=
  if T = 0 then (decide (St = 3) && seq) else if T = 2 then seq else if T = 3 ∨ T = 4 then (seq && ack) else if T = 5 ∨ T = 6 ∨ T = 7 then (nx && ga) else if T = 8 ∨ T = 9 then (!late && ack) else false
theorem judge_t {St g s gar iss isr mine th swl swh awl awh T S A : Int} {X : Bool} {a1 a2 a3 a4 a5 a6 b1 b2 b3 b4 b5 : Int}
    (hW : valid_Windows St s g gar iss isr mine th = some [.i swl, .i swh, .i awl, .i awh]) (hT : 0 ≤ T ∧ T ≤ 9) :
    valid_judge St s g gar iss isr mine th a1 a2 a3 a4 a5 a6 T X S A b1 b2 b3 b4 b5 = some [.b (judgeB St T (decide ((S - swl) % 281474976710656 ≤ (swh - swl) % 281474976710656))
      (decide ((A - awl) % 281474976710656 ≤ (awh - awl) % 281474976710656)) (decide ((S - (g + 1) % 281474976710656) % 281474976710656 ≤ (swh - (g + 1) % 281474976710656) % 281474976710656))
      (decide ((A - gar) % 281474976710656 ≤ (awh - gar) % 281474976710656)) (decide ((S - swl) % 281474976710656 ≥ 140737488355328)))] := by
  unfold valid_judge
  simp only [hW, in_t, add_t, less_t, out_ev, un_i_ev, un_nil_ev, un_b_ev]
  generalize decide ((S - swl) % 281474976710656 ≤ (swh - swl) % 281474976710656) = p1
  generalize decide ((A - awl) % 281474976710656 ≤ (awh - awl) % 281474976710656) = p2
  generalize decide ((S - (g + 1) % 281474976710656) % 281474976710656 ≤ (swh - (g + 1) % 281474976710656) % 281474976710656) = p3
  generalize decide ((A - gar) % 281474976710656 ≤ (awh - gar) % 281474976710656) = p4
  generalize decide ((S - swl) % 281474976710656 ≥ 140737488355328) = p5
  have hc : T = 0 ∨ T = 1 ∨ T = 2 ∨ T = 3 ∨ T = 4 ∨ T = 5 ∨ T = 6 ∨ T = 7 ∨ T = 8 ∨ T = 9 := by omega
  rcases hc with rfl | rfl | rfl | rfl | rfl | rfl | rfl | rfl | rfl | rfl
  · rw [br_eq rfl]
    by_cases h3 : St = 3
    · rw [br_eq h3]; simp [judgeB, h3]
    · rw [br_ne h3]; simp [judgeB, h3]
  all_goals (repeat (first | rw [br_eq rfl] | rw [br_ne (by decide)]))
  all_goals (cases p1 <;> cases p2 <;> cases p3 <;> cases p4 <;> cases p5 <;> rfl)
/-- What becomes of it. -/
def checkI (St T : Int) (ack good : Bool) : Int :=
  if St = 1 then (if T = 0 then 1 else 3) else if St = 2 then (if (T = 1 ∨ T = 7) ∧ ack = true then 1 else 3) else if St = 0 ∨ St = 8 then 3 else if good then 1 else if T = 8 ∨ T = 9 then 3 else 2
theorem check_t {St g s gar iss isr mine th swl swh awl awh T S A : Int} {good : Bool} {a1 a2 a3 a4 a5 a6 b1 b2 b3 b4 b5 : Int} {dt : ByteArray}
    (hW : valid_Windows St s g gar iss isr mine th = some [.i swl, .i swh, .i awl, .i awh])
    (hJ : valid_judge St s g gar iss isr mine th a1 a2 a3 a4 a5 a6 T true S A b1 b2 b3 b4 b5 = some [.b good]) :
    valid_Check St s g gar iss isr mine th a1 a2 a3 a4 a5 a6 T true S A b1 b2 b3 b4 b5 dt = some [.i (checkI St T (decide ((A - awl) % 281474976710656 ≤ (awh - awl) % 281474976710656)) good)] := by
  unfold valid_Check valid_Long
  rw [br_t]
  simp only [hW, hJ, in_t, out_ev, un_i_ev, un_nil_ev, un_b_ev, un_s_ev]
  generalize decide ((A - awl) % 281474976710656 ≤ (awh - awl) % 281474976710656) = p2
  unfold checkI
  by_cases h1 : St = 1
  · rw [br_eq h1, if_pos h1]
    by_cases h : T = 0
    · rw [br_eq h, if_pos h]
    · rw [br_ne h, if_neg h]
  rw [br_ne h1, if_neg h1]
  by_cases h2 : St = 2
  · rw [br_eq h2, if_pos h2]
    by_cases h : T = 1
    · rw [br_eq h]; cases p2 <;> simp [br_t, br_f, h]
    · rw [br_ne h]
      by_cases h7 : T = 7
      · rw [br_eq h7]; cases p2 <;> simp [br_t, br_f, h7]
      · rw [br_ne h7]; simp [h, h7]
  rw [br_ne h2, if_neg h2]
  have key : br (!good) (br (T != 8) (br (T != 9) (some [Leaf.i 2]) (br good (some [.i 1]) (some [.i 3]))) (br good (some [.i 1]) (some [.i 3]))) (br good (some [.i 1]) (some [.i 3])) = some [.i (if good = true then 1 else if T = 8 ∨ T = 9 then 3 else 2)] := by
    cases good with
    | true => rfl
    | false =>
      simp only [Bool.not_false, br_t, br_f]
      by_cases h8 : T = 8
      · subst h8; rfl
      · by_cases h9 : T = 9
        · subst h9; rfl
        · rw [show (T != 8) = true by simp [h8], show (T != 9) = true by simp [h9]]
          simp [br_t, h8, h9]
  by_cases h0 : St = 0
  · rw [br_eq h0, br_eq h0, if_pos (.inl h0)]
  rw [br_ne h0]
  by_cases h8 : St = 8
  · rw [br_eq h8, if_pos (.inr h8)]
  rw [br_ne h8, if_neg (by omega)]
  exact key
end Go.Sx.T

