import Derived.Test.YtllgbgponmkijaaGreatDoorPlChk
import Derived.Test.YtllgbgponmkijaaGreatDoorYVSSpec
set_option linter.all false
namespace Go.Sx.T
open Go Go.Sx
/-- The windows where nothing has come but what one knows. -/
theorem lateI_back {g n : Int} (h0 : 0 ≤ g) (h1 : g < 281474976710656) (hn : 1 ≤ n) (hn1 : n ≤ 1000) : lateI g ((g + (1 - n)) % 281474976710656) = g ∨ n = 1 := by
  unfold lateI
  by_cases e : n = 1
  · exact .inr e
  · left
    split <;> omega
def okB (St T : Int) : Bool := checkI St T true (judgeB St T true true true true false) == 1
theorem check_std {St g s mine th T A : Int} (hg : 0 ≤ g ∧ g < 281474976710656) (hs : 0 ≤ s ∧ s < 281474976710656) (hT : 0 ≤ T ∧ T ≤ 9) (hA : A = s ∨ T = 0 ∨ T = 2) :
    ∃ r, valid_Check St s g s s g mine th 0 0 0 0 0 0 T true ((g + 1) % 281474976710656) A 0 0 0 0 0 ByteArray.empty = some [.i r] ∧ (r = 1 ↔ okB St T = true) := by
  have w1 : 32 ≤ winI th ∧ winI th ≤ 1000 := by unfold winI; omega
  have w2 : 32 ≤ winI mine ∧ winI mine ≤ 1000 := by unfold winI; omega
  have hW := windows_t (St := St) (g := g) (s := s) (gar := s) (iss := s) (isr := g) (mine := mine) (th := th) (by unfold U; omega) (by unfold U; omega) (by unfold U; omega)
  obtain ⟨swl, e1⟩ : ∃ x, x = lateI g ((g + (1 - winI th / 4)) % 281474976710656) := ⟨_, rfl⟩
  obtain ⟨awl, e2⟩ : ∃ x, x = lateI s ((s + (1 - winI mine)) % 281474976710656) := ⟨_, rfl⟩
  obtain ⟨q, hq⟩ : ∃ q, q = 3 * winI th / 4 := ⟨_, rfl⟩
  have q1 : 24 ≤ q ∧ q ≤ 750 := by omega
  rw [← hq] at hW
  clear hq
  obtain ⟨swh, e3⟩ : ∃ x, x = (g + q) % 281474976710656 := ⟨_, rfl⟩
  rw [← e1, ← e2, ← e3] at hW
  have f1 : swl = g := by rcases lateI_back hg.1 hg.2 (n := winI th / 4) (by omega) (by omega) with h | h <;> omega
  have f2 : awl = s := by rcases lateI_back hs.1 hs.2 (n := winI mine) (by omega) (by omega) with h | h <;> omega
  subst f1 f2
  refine ⟨_, check_t hW (judge_t hW hT), ?_⟩
  have d1 : decide (((swl + 1) % 281474976710656 - swl) % 281474976710656 ≤ (swh - swl) % 281474976710656) = true := decide_eq_true (by omega)
  have d3 : decide (((swl + 1) % 281474976710656 - (swl + 1) % 281474976710656) % 281474976710656 ≤ (swh - (swl + 1) % 281474976710656) % 281474976710656) = true := decide_eq_true (by omega)
  have d5 : decide (((swl + 1) % 281474976710656 - swl) % 281474976710656 ≥ 140737488355328) = false := decide_eq_false (by omega)
  rw [d1, d3, d5]
  unfold okB
  rw [beq_iff_eq]
  rcases hA with rfl | rfl | rfl
  · have d2 : decide ((A - A) % 281474976710656 ≤ (A % 281474976710656 - A) % 281474976710656) = true := decide_eq_true (by omega)
    rw [d2]
  · generalize decide ((A - awl) % 281474976710656 ≤ (awl % 281474976710656 - awl) % 281474976710656) = p
    unfold checkI judgeB
    cases p <;> simp
  · generalize decide ((A - awl) % 281474976710656 ≤ (awl % 281474976710656 - awl) % 281474976710656) = p
    unfold checkI judgeB
    cases p <;> simp
theorem hasAck_t {T : Int} (hT : 0 ≤ T ∧ T ≤ 9) : ref_HasAck T = some [.b (decide (T ≠ 0 ∧ T ≠ 2))] := by
  have hc : T = 0 ∨ T = 1 ∨ T = 2 ∨ T = 3 ∨ T = 4 ∨ T = 5 ∨ T = 6 ∨ T = 7 ∨ T = 8 ∨ T = 9 := by omega
  rcases hc with rfl | rfl | rfl | rfl | rfl | rfl | rfl | rfl | rfl | rfl <;> rfl
def addT (t : Int) : ByteArray := strOfI (partL Option.none (((1 : Nat) : Int)) [wrapI .u8 (addI .i64 48 t)])
def goodOf (St : Int) : Nat → Int → ByteArray → Option ByteArray
  | 0, _, good => some good
  | n + 1, t, good => bif okB St t then (bif Nat.ble (ByteArray.size good + ByteArray.size (addT t)) 9223372036854775807 then goodOf St n (t + 1) (good ++ addT t) else none) else goodOf St n (t + 1) good
theorem states_L {g s mine th St : Int} (hg : 0 ≤ g ∧ g < 281474976710656) (hs : 0 ≤ s ∧ s < 281474976710656) {α : Type} (kx : Nat → List Leaf → Option α) (kr : List Leaf → Option α) :
    ∀ (k n : Nat) (t : Int) (good r : ByteArray), t + k = 10 → 0 ≤ t → goodOf St k t good = some r → ValidStates_10_L kx kr (n + k + 1) St s g s s g mine th t good St = kx 0 [.i St, .s r]
  | 0, n, t, good, r, h1, h2, h => by
    simp only [goodOf, Option.some.injEq] at h
    subst h
    unfold ValidStates_10_L ValidStates_10_B
    rw [br_neg (by omega)]
  | k + 1, n, t, good, r, h1, h2, h => by
    have hT : 0 ≤ t ∧ t ≤ 9 := by omega
    have ih := states_L hg hs (mine := mine) (th := th) (St := St) kx kr k n (t + 1)
    unfold ValidStates_10_L ValidStates_10_B
    rw [br_pos hT.2]
    simp only [rstep_t 1 (show U g by unfold U; omega), hasAck_t hT, out_ev, un_i_ev, un_b_ev, un_nil_ev]
    have e : addI .i64 t 1 = t + 1 := addI_i (by unfold I63; omega)
    have both : ∀ (A : Int), (A = s ∨ t = 0 ∨ t = 2) → (out (valid_Check St s g s s g mine th 0 0 0 0 0 0 t true ((g + 1) % 281474976710656) A 0 0 0 0 0 ByteArray.empty) fun r429 =>
        un_i r429 fun x430 r431 =>
        un_nil r431 <|
        br (x430 == 1)
          (one (addI .i64 48 t) fun x432 =>
           one (wrapI .u8 x432) fun x433 =>
           chk (Nat.ble (ByteArray.size good + ByteArray.size (strOfI (partL Option.none (((1 : Nat) : Int)) [x433]))) 9223372036854775807) <|
           one (addI .i64 t 1) fun x434 =>
           ValidStates_10_L kx kr (n + k + 1) St s g s s g mine th x434 (good ++ strOfI (partL Option.none (((1 : Nat) : Int)) [x433])) St)
          (one (addI .i64 t 1) fun x435 =>
           ValidStates_10_L kx kr (n + k + 1) St s g s s g mine th x435 good St)) = kx 0 [.i St, .s r] := by
      intro A hA
      obtain ⟨c, hc, h1c⟩ := check_std (St := St) (mine := mine) (th := th) hg hs hT hA
      simp only [hc, out_ev, un_i_ev, un_nil_ev, one_ev, e]
      simp only [goodOf] at h
      by_cases h1' : c = 1
      · rw [br_eq h1']
        rw [h1c.1 h1', cond_true] at h
        change chk (Nat.ble (ByteArray.size good + ByteArray.size (addT t)) 9223372036854775807) (ValidStates_10_L kx kr (n + k + 1) St s g s s g mine th (t + 1) (good ++ addT t) St) = _
        cases hb : Nat.ble (ByteArray.size good + ByteArray.size (addT t)) 9223372036854775807 with
        | false => rw [hb] at h; cases h
        | true =>
          rw [hb, cond_true] at h
          rw [chk_true]
          exact ih _ r (by omega) (by omega) h
      · rw [br_ne h1']
        have : okB St t = false := by
          cases hb : okB St t with
          | false => rfl
          | true => exact absurd (h1c.2 hb) h1'
        rw [this, cond_false] at h
        exact ih _ r (by omega) (by omega) h
    by_cases ha : t ≠ 0 ∧ t ≠ 2
    · rw [br_pos ha]; exact both s (.inl rfl)
    · rw [br_neg ha]; exact both 0 (by omega)
theorem ValidStates_true {v0 v1 v2 v3 v4 v5 v6 v7 state : Int} (_ : I63 v0) (h1 : U v1) (h2 : U v2) (_ : U v3) (_ : U v4) (_ : U v5) (_ : I63 v6) (_ : I63 v7) : ValidStates v0 v1 v2 v3 v4 v5 v6 v7 state = some [.b true] := by
  unfold ValidStates ValidStates_d
  obtain ⟨N, hN0, hN1, eN⟩ := rem_N (m := 9) (by decide) (by decide) state
  simp only [one_ev, eN, rseq_t h1, rseq_t h2, out_ev, un_i_ev, un_nil_ev]
  obtain ⟨k, hk⟩ : ∃ k, top = k + 10 + 1 := ⟨top - 11, by decide⟩
  rw [hk]
  have hc : N = 0 ∨ N = 1 ∨ N = 2 ∨ N = 3 ∨ N = 4 ∨ N = 5 ∨ N = 6 ∨ N = 7 ∨ N = 8 := by omega
  have fin : ∀ r : ByteArray, goodOf N 10 0 { data := #[] } = some r →
      (r == List.getD [{ data := #[] }, { data := #[48] }, { data := #[49, 55] }, { data := #[48, 50, 51, 52, 53, 54, 55, 56, 57] }, { data := #[50, 51, 52, 53, 54, 55, 56, 57] }, { data := #[50, 51, 52, 53, 54, 55, 56, 57] }, { data := #[50, 51, 52, 53, 54, 55, 56, 57] }, { data := #[50, 51, 52, 53, 54, 55, 56, 57] }, { data := #[] }] (Int.toNat N) ByteArray.empty) = true → ValidStates v0 v1 v2 v3 v4 v5 v6 v7 state = some [.b true] := by
    intro r hr he
    unfold ValidStates ValidStates_d
    simp only [one_ev, eN, rseq_t h1, rseq_t h2, out_ev, un_i_ev, un_nil_ev]
    rw [hk, states_L (by omega) (by omega) _ _ 10 k 0 _ r (by omega) (by omega) hr]
    simp only [show Nat.beq 0 0 = true from rfl, br_t, un_i_ev, un_s_ev, un_nil_ev]
    rw [chk_pos (by omega), chk_pos (by omega), he]
  have := fin
  unfold ValidStates ValidStates_d at this
  simp only [one_ev, eN, rseq_t h1, rseq_t h2, out_ev, un_i_ev, un_nil_ev, hk] at this
  rcases hc with rfl | rfl | rfl | rfl | rfl | rfl | rfl | rfl | rfl
  · exact this { data := #[] } (by decide +kernel) (by decide +kernel)
  · exact this { data := #[48] } (by decide +kernel) (by decide +kernel)
  · exact this { data := #[49, 55] } (by decide +kernel) (by decide +kernel)
  · exact this { data := #[48, 50, 51, 52, 53, 54, 55, 56, 57] } (by decide +kernel) (by decide +kernel)
  · exact this { data := #[50, 51, 52, 53, 54, 55, 56, 57] } (by decide +kernel) (by decide +kernel)
  · exact this { data := #[50, 51, 52, 53, 54, 55, 56, 57] } (by decide +kernel) (by decide +kernel)
  · exact this { data := #[50, 51, 52, 53, 54, 55, 56, 57] } (by decide +kernel) (by decide +kernel)
  · exact this { data := #[50, 51, 52, 53, 54, 55, 56, 57] } (by decide +kernel) (by decide +kernel)
  · exact this { data := #[] } (by decide +kernel) (by decide +kernel)
end Go.Sx.T

